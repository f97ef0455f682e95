-- written by gen.py (a program of this session) out of the kit's print of this seat's translation
import Derived.Test.YtilgbnbeonlbnaaK
namespace Go.Proofs.Ytilgbnbeonlbnaa.P
open Go.RowKit Go.Proofs.YtilgbnbeonlbnaaW.PrintWords Go.Proofs.YtilgbnbeonlbnaaW.PrintLast Go.Proofs.YtilgbnbeonlbnaaW.PrintMore
set_option linter.unusedVariables false
set_option linter.unusedSimpArgs false
/-! ### laws_FnExactConstants: function 3 -/
def laws_FnExactConstants.f  : Option (Bool) := some true
/-- THE ONE PURE STATEMENT of laws_FnExactConstants: yours. -/
def laws_FnExactConstants.Pure : Prop := laws_FnExactConstants.f  = some true
/-! ### laws_szIntS: function 51 -/
def laws_szIntS.f (l0 : List Int) (a1 : Int) : Option (Int) := if (wrap64 (a1 - (l0.length : Int))) < 0 then (some (-1)) else (some (wrap64 (a1 - (l0.length : Int))))
/-! ### laws_szIntSS: function 18 -/
def laws_szIntSS.l0 : Nat → List (List Int) → Int → Int → Option (Int)
  | 0, _, _, _ => none
  | k + 1, x0, x1, x5 => if x5 < (x0.length : Int) then (if 0 ≤ x5 then ((laws_szIntS.f (rd_L1 x0 x5) x1).bind fun t102 => (if t102 < 0 then (some (-1)) else (laws_szIntSS.l0 k x0 t102 (wrap64 (x5 + 1))))) else (none)) else (some x1)
def laws_szIntSS.f (k : Nat) (l0 : List (List Int)) (a1 : Int) : Option (Int) := if (wrap64 (a1 - (l0.length : Int))) < 0 then (some (-1)) else (laws_szIntSS.l0 k l0 (wrap64 (a1 - (l0.length : Int))) 0)
/-! ### spec_l1In: function 52 -/
def spec_l1In.f (a0 : Int) (a1 : Int) (a2 : Int) : Option (Bool) := if a0 ≥ a1 then (some (decide (a0 ≤ a2))) else (some false)
/-! ### spec_OrderOk: function 19 -/
mutual
def spec_OrderOk.l0 : Nat → List (List Int) → Int → Int → Option (Bool)
  | 0, _, _, _ => none
  | k + 1, x0, x3, x4 => if x4 < x3 then (if 0 ≤ x4 then (if x4 < (x0.length : Int) then (if ((rd_L1 x0 x4).length : Int) = x3 then (spec_OrderOk.l1 k x0 x3 x4 0) else (some false)) else (none)) else (none)) else (spec_OrderOk.l2 k x0 x3 0)
def spec_OrderOk.l1 : Nat → List (List Int) → Int → Int → Int → Option (Bool)
  | 0, _, _, _, _ => none
  | k + 1, x0, x3, x4, x5 => if x5 < x3 then (if 0 ≤ x4 then (if x4 < (x0.length : Int) then (if 0 ≤ x5 then (if x5 < ((rd_L1 x0 x4).length : Int) then ((spec_l1In.f (rd (rd_L1 x0 x4) x5) 0 1).bind fun t107 => (if t107 = true then (spec_OrderOk.l1 k x0 x3 x4 (wrap64 (x5 + 1))) else (some false))) else (none)) else (none)) else (none)) else (none)) else (spec_OrderOk.l0 k x0 x3 (wrap64 (x4 + 1)))
def spec_OrderOk.l2 : Nat → List (List Int) → Int → Int → Option (Bool)
  | 0, _, _, _ => none
  | k + 1, x0, x3, x6 => if x6 < x3 then (spec_OrderOk.l3 k x0 x3 x6 0) else (some true)
def spec_OrderOk.l3 : Nat → List (List Int) → Int → Int → Int → Option (Bool)
  | 0, _, _, _, _ => none
  | k + 1, x0, x3, x6, x7 => if x7 < x3 then (if x6 = x7 then (if 0 ≤ x6 then (if x6 < (x0.length : Int) then (if 0 ≤ x7 then (if x7 < ((rd_L1 x0 x6).length : Int) then (if (rd (rd_L1 x0 x6) x7) = 0 then (spec_OrderOk.j4 k x0 x3 x6 x7 true) else (spec_OrderOk.j4 k x0 x3 x6 x7 false)) else (none)) else (none)) else (none)) else (none)) else (if 0 ≤ x6 then (if x6 < (x0.length : Int) then (if 0 ≤ x7 then (if x7 < ((rd_L1 x0 x6).length : Int) then (if (rd (rd_L1 x0 x6) x7) = 1 then (if x7 < (x0.length : Int) then (if x6 < ((rd_L1 x0 x7).length : Int) then (spec_OrderOk.j4 k x0 x3 x6 x7 ((rd (rd_L1 x0 x7) x6) == 1)) else (none)) else (none)) else (spec_OrderOk.j4 k x0 x3 x6 x7 false)) else (none)) else (none)) else (none)) else (none))) else (spec_OrderOk.l2 k x0 x3 (wrap64 (x6 + 1)))
def spec_OrderOk.j4 : Nat → List (List Int) → Int → Int → Int → Bool → Option (Bool)
  | 0, _, _, _, _, _ => none
  | k + 1, x0, x3, x6, x7, x87 => if x87 = true then (some false) else (spec_OrderOk.l4 k x0 x3 x6 x7 0)
def spec_OrderOk.l4 : Nat → List (List Int) → Int → Int → Int → Int → Option (Bool)
  | 0, _, _, _, _, _ => none
  | k + 1, x0, x3, x6, x7, x8 => if x8 < x3 then (if 0 ≤ x6 then (if x6 < (x0.length : Int) then (if 0 ≤ x7 then (if x7 < ((rd_L1 x0 x6).length : Int) then (if (rd (rd_L1 x0 x6) x7) = 1 then (if x7 < (x0.length : Int) then (if 0 ≤ x8 then (if x8 < ((rd_L1 x0 x7).length : Int) then (if (rd (rd_L1 x0 x7) x8) = 1 then (if x8 < ((rd_L1 x0 x6).length : Int) then (if (rd (rd_L1 x0 x6) x8) = 0 then (some false) else (spec_OrderOk.l4 k x0 x3 x6 x7 (wrap64 (x8 + 1)))) else (none)) else (spec_OrderOk.l4 k x0 x3 x6 x7 (wrap64 (x8 + 1)))) else (none)) else (none)) else (none)) else (spec_OrderOk.l4 k x0 x3 x6 x7 (wrap64 (x8 + 1)))) else (none)) else (none)) else (none)) else (none)) else (spec_OrderOk.l3 k x0 x3 x6 (wrap64 (x7 + 1)))
end
def spec_OrderOk.f (k : Nat) (l0 : List (List Int)) : Option (Bool) := (spec_l1In.f (l0.length : Int) 1 12).bind fun t103 => (if t103 = true then (spec_OrderOk.l0 k l0 (l0.length : Int) 0) else (some false))
/-! ### laws_toIntS: function 53 -/
def laws_toIntS.l0 : Nat → List Int → List Int → Int → Option (List Int)
  | 0, _, _, _ => none
  | k + 1, x0, x3, x4 => if x4 < (x0.length : Int) then (if 0 ≤ x4 then (if x4 < (x3.length : Int) then (laws_toIntS.l0 k x0 (x3.set (x4 : Int).toNat (rd x0 x4)) (wrap64 (x4 + 1))) else (none)) else (none)) else (some x3)
def laws_toIntS.f (k : Nat) (l0 : List Int) : Option (List Int) := if 0 ≤ (l0.length : Int) then (if ((l0.length : Int) : Int).toNat ≤ 35184372088832 then (laws_toIntS.l0 k l0 (List.replicate ((l0.length : Int) : Int).toNat 0) 0) else (none)) else (none)
/-! ### laws_toIntSS: function 20 -/
def laws_toIntSS.l0 : Nat → List (List Int) → List (List Int) → Int → Option ((List (List Int)))
  | 0, _, _, _ => none
  | k + 1, x0, x3, x4 => if x4 < (x0.length : Int) then (if 0 ≤ x4 then ((laws_toIntS.f k (rd_L1 x0 x4)).bind fun t129 => (if x4 < (x3.length : Int) then (laws_toIntSS.l0 k x0 (x3.set (x4 : Int).toNat t129) (wrap64 (x4 + 1))) else (none))) else (none)) else (some x3)
def laws_toIntSS.f (k : Nat) (l0 : List (List Int)) : Option ((List (List Int))) := if 0 ≤ (l0.length : Int) then (if ((l0.length : Int) : Int).toNat ≤ 11728124029610 then (laws_toIntSS.l0 k l0 (List.replicate ((l0.length : Int) : Int).toNat []) 0) else (none)) else (none)
/-! ### impl_OrderOk: function 21 -/
mutual
def impl_OrderOk.j0 : Nat → List (List Int) → Int → Bool → Option (Bool)
  | 0, _, _, _ => none
  | k + 1, x0, x3, x18 => if x18 = true then (some false) else (impl_OrderOk.l0 k x0 x3 x0 (x0.length : Int) 0)
def impl_OrderOk.l0 : Nat → List (List Int) → Int → List (List Int) → Int → Int → Option (Bool)
  | 0, _, _, _, _, _ => none
  | k + 1, x0, x3, x19, x20, x21 => if x21 < x20 then (if 0 ≤ x21 then (if x21 < (x19.length : Int) then (if ((rd_L1 x19 x21).length : Int) = x3 then (if x21 < ((rd_L1 x19 x21).length : Int) then (impl_OrderOk.j2 k x0 x3 x21 (rd_L1 x19 x21) x19 x20 x21 ((rd (rd_L1 x19 x21) x21) != 1)) else (none)) else (impl_OrderOk.j2 k x0 x3 x21 (rd_L1 x19 x21) x19 x20 x21 true)) else (none)) else (none)) else (impl_OrderOk.l2 k x0 x3 x3 0)
def impl_OrderOk.j2 : Nat → List (List Int) → Int → Int → List Int → List (List Int) → Int → Int → Bool → Option (Bool)
  | 0, _, _, _, _, _, _, _, _ => none
  | k + 1, x0, x3, x4, x5, x19, x20, x21, x36 => if x36 = true then (some false) else (impl_OrderOk.l1 k x0 x3 x4 x19 x20 x21 x5 (x5.length : Int) 0)
def impl_OrderOk.l1 : Nat → List (List Int) → Int → Int → List (List Int) → Int → Int → List Int → Int → Int → Option (Bool)
  | 0, _, _, _, _, _, _, _, _, _ => none
  | k + 1, x0, x3, x4, x19, x20, x21, x37, x38, x39 => if x39 < x38 then (if 0 ≤ x39 then (if x39 < (x37.length : Int) then (if (rd x37 x39) = 0 then (impl_OrderOk.j4 k x0 x3 x4 x39 (rd x37 x39) x19 x20 x21 x37 x38 x39 false) else (impl_OrderOk.j4 k x0 x3 x4 x39 (rd x37 x39) x19 x20 x21 x37 x38 x39 ((rd x37 x39) != 1))) else (none)) else (none)) else (impl_OrderOk.l0 k x0 x3 x19 x20 (wrap64 (x21 + 1)))
def impl_OrderOk.j4 : Nat → List (List Int) → Int → Int → Int → Int → List (List Int) → Int → Int → List Int → Int → Int → Bool → Option (Bool)
  | 0, _, _, _, _, _, _, _, _, _, _, _, _ => none
  | k + 1, x0, x3, x4, x6, x7, x19, x20, x21, x37, x38, x39, x49 => if x49 = true then (some false) else (if 0 ≤ x6 then (if x6 < (x0.length : Int) then (if ((rd_L1 x0 x6).length : Int) = x3 then (if x7 = 1 then (if x4 = x6 then (impl_OrderOk.l1 k x0 x3 x4 x19 x20 x21 x37 x38 (wrap64 (x39 + 1))) else (if 0 ≤ x4 then (if x4 < ((rd_L1 x0 x6).length : Int) then (if (rd (rd_L1 x0 x6) x4) = 1 then (some false) else (impl_OrderOk.l1 k x0 x3 x4 x19 x20 x21 x37 x38 (wrap64 (x39 + 1)))) else (none)) else (none))) else (impl_OrderOk.l1 k x0 x3 x4 x19 x20 x21 x37 x38 (wrap64 (x39 + 1)))) else (some false)) else (none)) else (none))
def impl_OrderOk.l2 : Nat → List (List Int) → Int → Int → Int → Option (Bool)
  | 0, _, _, _, _ => none
  | k + 1, x0, x3, x78, x79 => if x79 < x78 then (impl_OrderOk.l3 k x0 x3 x79 x78 x79 x3 0) else (some true)
def impl_OrderOk.l3 : Nat → List (List Int) → Int → Int → Int → Int → Int → Int → Option (Bool)
  | 0, _, _, _, _, _, _, _ => none
  | k + 1, x0, x3, x8, x78, x79, x82, x83 => if x83 < x82 then (impl_OrderOk.l4 k x0 x3 x8 x83 x78 x79 x82 x83 x3 0) else (impl_OrderOk.l2 k x0 x3 x78 (wrap64 (x79 + 1)))
def impl_OrderOk.l4 : Nat → List (List Int) → Int → Int → Int → Int → Int → Int → Int → Int → Int → Option (Bool)
  | 0, _, _, _, _, _, _, _, _, _, _ => none
  | k + 1, x0, x3, x8, x9, x78, x79, x82, x83, x86, x87 => if x87 < x86 then (if 0 ≤ x8 then (if x8 < (x0.length : Int) then (if 0 ≤ x9 then (if x9 < ((rd_L1 x0 x8).length : Int) then (if (rd (rd_L1 x0 x8) x9) = 1 then (if x9 < (x0.length : Int) then (if 0 ≤ x87 then (if x87 < ((rd_L1 x0 x9).length : Int) then (if (rd (rd_L1 x0 x9) x87) = 1 then (if x87 < ((rd_L1 x0 x8).length : Int) then (if (rd (rd_L1 x0 x8) x87) = 1 then (impl_OrderOk.l4 k x0 x3 x8 x9 x78 x79 x82 x83 x86 (wrap64 (x87 + 1))) else (some false)) else (none)) else (impl_OrderOk.l4 k x0 x3 x8 x9 x78 x79 x82 x83 x86 (wrap64 (x87 + 1)))) else (none)) else (none)) else (none)) else (impl_OrderOk.l4 k x0 x3 x8 x9 x78 x79 x82 x83 x86 (wrap64 (x87 + 1)))) else (none)) else (none)) else (none)) else (none)) else (impl_OrderOk.l3 k x0 x3 x8 x78 x79 x82 (wrap64 (x83 + 1)))
end
def impl_OrderOk.f (k : Nat) (l0 : List (List Int)) : Option (Bool) := if (l0.length : Int) < 1 then (impl_OrderOk.j0 k l0 (l0.length : Int) true) else (impl_OrderOk.j0 k l0 (l0.length : Int) (decide ((l0.length : Int) > 12)))
/-! ### laws_eqIntS: function 43 -/
def laws_eqIntS.l0 : Nat → List Int → List Int → Int → Option (Bool)
  | 0, _, _, _ => none
  | k + 1, x0, x1, x5 => if x5 < (x0.length : Int) then (if 0 ≤ x5 then (if x5 < (x1.length : Int) then (if (rd x0 x5) = (rd x1 x5) then (laws_eqIntS.l0 k x0 x1 (wrap64 (x5 + 1))) else (some false)) else (none)) else (none)) else (some true)
def laws_eqIntS.f (k : Nat) (l0 : List Int) (l1 : List Int) : Option (Bool) := if (l0.length : Int) = (l1.length : Int) then (laws_eqIntS.l0 k l0 l1 0) else (some false)
/-! ### laws_eqIntSS: function 22 -/
def laws_eqIntSS.l0 : Nat → List (List Int) → List (List Int) → Int → Option (Bool)
  | 0, _, _, _ => none
  | k + 1, x0, x1, x5 => if x5 < (x0.length : Int) then (if 0 ≤ x5 then (if x5 < (x1.length : Int) then ((laws_eqIntS.f k (rd_L1 x0 x5) (rd_L1 x1 x5)).bind fun t149 => (if t149 = true then (laws_eqIntSS.l0 k x0 x1 (wrap64 (x5 + 1))) else (some false))) else (none)) else (none)) else (some true)
def laws_eqIntSS.f (k : Nat) (l0 : List (List Int)) (l1 : List (List Int)) : Option (Bool) := if (l0.length : Int) = (l1.length : Int) then (laws_eqIntSS.l0 k l0 l1 0) else (some false)
/-! ### laws_FnExactOrderOk: function 4 -/
def laws_FnExactOrderOk.f (k : Nat) (l0 : List (List Int)) : Option (Bool) := (laws_szIntSS.f k l0 1048576).bind fun t150 => (if t150 < 0 then (some true) else ((laws_toIntSS.f k l0).bind fun t151 => ((spec_OrderOk.f k t151).bind fun t154 => ((laws_toIntSS.f k l0).bind fun t155 => ((impl_OrderOk.f k t155).bind fun t158 => (if (t158 != t154) = true then (some false) else ((laws_toIntSS.f k l0).bind fun t159 => ((laws_eqIntSS.f k t155 t159).bind fun t162 => (if t162 = true then (some true) else (some false))))))))))
/-! ### spec_LeastOf: function 23 -/
mutual
def spec_LeastOf.l0 : Nat → List (List Int) → Int → Option (Int × Bool)
  | 0, _, _ => none
  | k + 1, x0, x4 => if x4 < (x0.length : Int) then ((spec_OrderOk.f k x0).bind fun t163 => (spec_LeastOf.j1 k x0 x4 t163)) else (spec_LeastOf.j1 k x0 x4 false)
def spec_LeastOf.j1 : Nat → List (List Int) → Int → Bool → Option (Int × Bool)
  | 0, _, _, _ => none
  | k + 1, x0, x4, x14 => if x14 = true then (spec_LeastOf.l1 k x0 x4 true 0) else (some ((-1), false))
def spec_LeastOf.l1 : Nat → List (List Int) → Int → Bool → Int → Option (Int × Bool)
  | 0, _, _, _, _ => none
  | k + 1, x0, x4, x5, x6 => if x6 < (x0.length : Int) then (if x5 = true then (if 0 ≤ x4 then (if x4 < (x0.length : Int) then (if 0 ≤ x6 then (if x6 < ((rd_L1 x0 x4).length : Int) then (spec_LeastOf.l1 k x0 x4 ((rd (rd_L1 x0 x4) x6) == 1) (wrap64 (x6 + 1))) else (none)) else (none)) else (none)) else (none)) else (spec_LeastOf.l1 k x0 x4 false (wrap64 (x6 + 1)))) else (if x5 = true then (some (x4, true)) else (spec_LeastOf.l0 k x0 (wrap64 (x4 + 1))))
end
def spec_LeastOf.f (k : Nat) (l0 : List (List Int)) : Option (Int × Bool) := spec_LeastOf.l0 k l0 0
/-! ### impl_LeastOf: function 24 -/
mutual
def impl_LeastOf.l0 : Nat → List (List Int) → Int → Int → Option (Int × Bool)
  | 0, _, _, _ => none
  | k + 1, x12, x13, x14 => if x14 < x13 then (if 0 ≤ x14 then (if x14 < (x12.length : Int) then (impl_LeastOf.l1 k x14 true x12 x13 x14 (rd_L1 x12 x14) ((rd_L1 x12 x14).length : Int) 0) else (none)) else (none)) else (some ((-1), false))
def impl_LeastOf.l1 : Nat → Int → Bool → List (List Int) → Int → Int → List Int → Int → Int → Option (Int × Bool)
  | 0, _, _, _, _, _, _, _, _ => none
  | k + 1, x4, x6, x12, x13, x14, x19, x20, x21 => if x21 < x20 then (if 0 ≤ x21 then (if x21 < (x19.length : Int) then (if x6 = true then (impl_LeastOf.l1 k x4 ((rd x19 x21) == 1) x12 x13 x14 x19 x20 (wrap64 (x21 + 1))) else (impl_LeastOf.l1 k x4 false x12 x13 x14 x19 x20 (wrap64 (x21 + 1)))) else (none)) else (none)) else (if x6 = true then (some (x4, true)) else (impl_LeastOf.l0 k x12 x13 (wrap64 (x14 + 1))))
end
def impl_LeastOf.f (k : Nat) (l0 : List (List Int)) : Option (Int × Bool) := (impl_OrderOk.f k l0).bind fun t166 => (if t166 = true then (impl_LeastOf.l0 k l0 (l0.length : Int) 0) else (some ((-1), false)))
/-! ### laws_FnExactLeastOf: function 5 -/
def laws_FnExactLeastOf.j0 : Nat → List (List Int) → List (List Int) → Bool → Option (Bool)
  | 0, _, _, _ => none
  | k + 1, x0, x6, x34 => if x34 = true then (some false) else ((laws_toIntSS.f k x0).bind fun t180 => ((laws_eqIntSS.f k x6 t180).bind fun t183 => (if t183 = true then (some true) else (some false))))
def laws_FnExactLeastOf.f (k : Nat) (l0 : List (List Int)) : Option (Bool) := (laws_szIntSS.f k l0 1048576).bind fun t169 => (if t169 < 0 then (some true) else ((laws_toIntSS.f k l0).bind fun t170 => ((spec_LeastOf.f k t170).bind fun bt173 => ((laws_toIntSS.f k l0).bind fun t175 => ((impl_LeastOf.f k t175).bind fun bt178 => (if bt178.1 = bt173.1 then (laws_FnExactLeastOf.j0 k l0 t175 (bt178.2 != bt173.2)) else (laws_FnExactLeastOf.j0 k l0 t175 true)))))))
/-- A state of type 54 at block g of W; what its slices lead to came in by w0. -/
def IsS54 (w0 W : World) (g : Nat) (f0 : List Int) (f1 : Int) : Prop := ∃ A0 c0, W.heap[g]? = some (.cells #[.slice A0 f0.length c0, .int .i64 f1] 54 (0, 0)) ∧ w0.heap.size ≤ g ∧ Kd.C (Kd.int .u8) w0 A0 f0.length f0
/-! ### spec_l20Rd_pick: function 62 -/
def spec_l20Rd_pick.j0 : Nat → Int → Bool → List Int → Int → Option (Int × Int)
  | 0, _, _, _, _ => none
  | k + 1, x1, x24, x1000, x1001 => if x24 = true then (some (0, x1001)) else (if (wrap64 (x1001 - 1)) < (x1000.length : Int) then (if 0 ≤ (wrap64 (x1001 - 1)) then (if x1 = 0 then (none) else (some (Int.tmod (wrap64 (rd x1000 (wrap64 (x1001 - 1)))) x1, x1001))) else (none)) else (if (x1000.length : Int) = 0 then (none) else (if 0 ≤ (Int.tmod (wrap64 (x1001 - 1)) (x1000.length : Int)) then (if (Int.tmod (wrap64 (x1001 - 1)) (x1000.length : Int)) < (x1000.length : Int) then (if 0 ≤ (Int.tmod (wrap64 ((wrap64 ((wrap64 (x1001 - 1)) * 7)) + 3)) (x1000.length : Int)) then (if (Int.tmod (wrap64 ((wrap64 ((wrap64 (x1001 - 1)) * 7)) + 3)) (x1000.length : Int)) < (x1000.length : Int) then (if x1 = 0 then (none) else (some (Int.tmod (Go.bits .xor .i64 (wrap64 ((wrap64 ((wrap64 ((wrap64 ((wrap64 (rd x1000 (Int.tmod (wrap64 (x1001 - 1)) (x1000.length : Int)))) * 131)) + (wrap64 ((wrap64 (rd x1000 (Int.tmod (wrap64 ((wrap64 ((wrap64 (x1001 - 1)) * 7)) + 3)) (x1000.length : Int)))) * 1117)))) + (wrap64 ((wrap64 (x1001 - 1)) * 29)))) + (wrap64 ((wrap64 (Int.tdiv (wrap64 (x1001 - 1)) (x1000.length : Int))) * 53)))) (wrap64 (Int.tdiv (wrap64 ((wrap64 ((wrap64 ((wrap64 ((wrap64 (rd x1000 (Int.tmod (wrap64 (x1001 - 1)) (x1000.length : Int)))) * 131)) + (wrap64 ((wrap64 (rd x1000 (Int.tmod (wrap64 ((wrap64 ((wrap64 (x1001 - 1)) * 7)) + 3)) (x1000.length : Int)))) * 1117)))) + (wrap64 ((wrap64 (x1001 - 1)) * 29)))) + (wrap64 ((wrap64 (Int.tdiv (wrap64 (x1001 - 1)) (x1000.length : Int))) * 53)))) 64))) x1, x1001))) else (none)) else (none)) else (none)) else (none))))
def spec_l20Rd_pick.f (k : Nat) (s0_0 : List Int) (s0_1 : Int) (a1 : Int) : Option (Int × Int) := if a1 < 1 then (spec_l20Rd_pick.j0 k a1 true s0_0 (wrap64 (s0_1 + 1))) else (spec_l20Rd_pick.j0 k a1 ((s0_0.length : Int) == 0) s0_0 (wrap64 (s0_1 + 1)))
/-! ### spec_l20Sets: function 63 -/
mutual
def spec_l20Sets.l0 : Nat → Int → List (List Int) → Int → Option ((List (List Int)))
  | 0, _, _, _ => none
  | k + 1, x0, x3, x4 => if 0 ≤ x0 then (if x4 < (shl .i64 1 x0) then (spec_l20Sets.l1 k x0 x3 x4 (([] : List Int)) 0) else (some x3)) else (none)
def spec_l20Sets.l1 : Nat → Int → List (List Int) → Int → List Int → Int → Option ((List (List Int)))
  | 0, _, _, _, _, _ => none
  | k + 1, x0, x3, x4, x5, x6 => if 0 ≤ x0 then (if x6 < (shl .i64 1 x0) then (if (Go.bits .and .i64 x4 x6) = x4 then (if x5.length < 17592186044416 then (spec_l20Sets.l1 k x0 x3 x4 (x5 ++ [1]) (wrap64 (x6 + 1))) else (none)) else (if x5.length < 17592186044416 then (spec_l20Sets.l1 k x0 x3 x4 (x5 ++ [0]) (wrap64 (x6 + 1))) else (none))) else (if x3.length < 5864062014805 then (spec_l20Sets.l0 k x0 (x3 ++ [x5]) (wrap64 (x4 + 1))) else (none))) else (none)
end
def spec_l20Sets.f (k : Nat) (a0 : Int) : Option ((List (List Int))) := spec_l20Sets.l0 k a0 (([] : List (List Int))) 0
/-! ### spec_l20Rd_odd: function 64 -/
def spec_l20Rd_odd.f (k : Nat) (s0_0 : List Int) (s0_1 : Int) (a1 : Int) : Option (Bool × Int) := if a1 > 0 then ((spec_l20Rd_pick.f k s0_0 s0_1 a1).bind fun bt202 => (some ((bt202.1 == (wrap64 (a1 - 1))), bt202.2))) else (some (false, s0_1))
/-! ### spec_l20Order: function 54 -/
mutual
def spec_l20Order.l0 : Nat → Int → Int → List (List Int) → Int → List Int → Int → Option ((List (List Int)) × Int)
  | 0, _, _, _, _, _, _ => none
  | k + 1, x1, x5, x6, x7, x1000, x1001 => if x7 < x5 then (if 0 ≤ x5 then (if (x5 : Int).toNat ≤ 35184372088832 then ((some (List.replicate (x5 : Int).toNat 0 : List Int)).bind fun y209 => (if 0 ≤ x7 then (if x7 < (y209.length : Int) then (spec_l20Order.l1 k x1 x5 x6 x7 (y209.set (x7 : Int).toNat 1) (wrap64 (x7 + 1)) x1000 x1001) else (none)) else (none))) else (none)) else (none)) else (spec_l20Order.l2 k x1 x5 x6 0 x1000 x1001)
def spec_l20Order.l1 : Nat → Int → Int → List (List Int) → Int → List Int → Int → List Int → Int → Option ((List (List Int)) × Int)
  | 0, _, _, _, _, _, _, _, _ => none
  | k + 1, x1, x5, x6, x7, x8, x9, x1000, x1001 => if x9 < x5 then ((spec_l20Rd_pick.f k x1000 x1001 2).bind fun bt216 => (if 0 ≤ x9 then (if x9 < (x8.length : Int) then ((some (x8.set (x9 : Int).toNat bt216.1 : List Int)).bind fun y218 => (if x7 = 0 then ((spec_l20Rd_pick.f k x1000 bt216.2 3).bind fun bt219 => (if bt219.1 > 0 then (spec_l20Order.l1 k x1 x5 x6 x7 (y218.set (x9 : Int).toNat 1) (wrap64 (x9 + 1)) x1000 bt219.2) else (if x9 = (wrap64 (x5 - 1)) then ((spec_l20Rd_pick.f k x1000 bt219.2 3).bind fun bt222 => (if bt222.1 > 0 then (spec_l20Order.l1 k x1 x5 x6 x7 (y218.set (x9 : Int).toNat 1) (wrap64 (x9 + 1)) x1000 bt222.2) else (spec_l20Order.l1 k x1 x5 x6 x7 y218 (wrap64 (x9 + 1)) x1000 bt222.2))) else (spec_l20Order.l1 k x1 x5 x6 x7 y218 (wrap64 (x9 + 1)) x1000 bt219.2)))) else (if x9 = (wrap64 (x5 - 1)) then ((spec_l20Rd_pick.f k x1000 bt216.2 3).bind fun bt225 => (if bt225.1 > 0 then (spec_l20Order.l1 k x1 x5 x6 x7 (y218.set (x9 : Int).toNat 1) (wrap64 (x9 + 1)) x1000 bt225.2) else (spec_l20Order.l1 k x1 x5 x6 x7 y218 (wrap64 (x9 + 1)) x1000 bt225.2))) else (spec_l20Order.l1 k x1 x5 x6 x7 y218 (wrap64 (x9 + 1)) x1000 bt216.2)))) else (none)) else (none))) else (if x6.length < 5864062014805 then (spec_l20Order.l0 k x1 x5 (x6 ++ [x8]) (wrap64 (x7 + 1)) x1000 x1001) else (none))
def spec_l20Order.l2 : Nat → Int → Int → List (List Int) → Int → List Int → Int → Option ((List (List Int)) × Int)
  | 0, _, _, _, _, _, _ => none
  | k + 1, x1, x5, x6, x10, x1000, x1001 => if x10 < x5 then (spec_l20Order.l3 k x1 x5 x6 x10 0 x1000 x1001) else ((spec_l20Rd_pick.f k x1000 x1001 5).bind fun bt236 => (if bt236.1 = 0 then ((spec_l20Rd_pick.f k x1000 bt236.2 4).bind fun bt238 => ((spec_l20Sets.f k bt238.1).bind fun t240 => (spec_l20Order.j5 k x1 t240 x1000 bt238.2))) else (spec_l20Order.j5 k x1 x6 x1000 bt236.2)))
def spec_l20Order.l3 : Nat → Int → Int → List (List Int) → Int → Int → List Int → Int → Option ((List (List Int)) × Int)
  | 0, _, _, _, _, _, _, _ => none
  | k + 1, x1, x5, x6, x10, x11, x1000, x1001 => if x11 < x5 then (spec_l20Order.l4 k x1 x5 x6 x10 x11 0 x1000 x1001) else (spec_l20Order.l2 k x1 x5 x6 (wrap64 (x10 + 1)) x1000 x1001)
def spec_l20Order.l4 : Nat → Int → Int → List (List Int) → Int → Int → Int → List Int → Int → Option ((List (List Int)) × Int)
  | 0, _, _, _, _, _, _, _, _ => none
  | k + 1, x1, x5, x6, x10, x11, x12, x1000, x1001 => if x12 < x5 then (if 0 ≤ x11 then (if x11 < (x6.length : Int) then (if 0 ≤ x10 then (if x10 < ((rd_L1 x6 x11).length : Int) then (if (rd (rd_L1 x6 x11) x10) = 1 then (if x10 < (x6.length : Int) then (if 0 ≤ x12 then (if x12 < ((rd_L1 x6 x10).length : Int) then (if (rd (rd_L1 x6 x10) x12) = 1 then (if x12 < ((rd_L1 x6 x11).length : Int) then (spec_l20Order.l4 k x1 x5 (x6.set (x11 : Int).toNat ((rd_L1 x6 x11).set (x12 : Int).toNat 1)) x10 x11 (wrap64 (x12 + 1)) x1000 x1001) else (none)) else (spec_l20Order.l4 k x1 x5 x6 x10 x11 (wrap64 (x12 + 1)) x1000 x1001)) else (none)) else (none)) else (none)) else (spec_l20Order.l4 k x1 x5 x6 x10 x11 (wrap64 (x12 + 1)) x1000 x1001)) else (none)) else (none)) else (none)) else (none)) else (spec_l20Order.l3 k x1 x5 x6 x10 (wrap64 (x11 + 1)) x1000 x1001)
def spec_l20Order.j5 : Nat → Int → List (List Int) → List Int → Int → Option ((List (List Int)) × Int)
  | 0, _, _, _, _ => none
  | k + 1, x1, x6, x1000, x1001 => (spec_l20Rd_odd.f k x1000 x1001 x1).bind fun bt243 => (if bt243.1 = true then ((spec_l20Rd_pick.f k x1000 bt243.2 3).bind fun bt245 => (if bt245.1 = 0 then (some ((([] : List (List Int))), bt245.2)) else (if bt245.1 = 1 then (if 0 < (x6.length : Int) then (if 0 < ((rd_L1 x6 0).length : Int) then (some ((x6.set (0 : Int).toNat ((rd_L1 x6 0).set (0 : Int).toNat 0)), bt245.2)) else (none)) else (none)) else (if 0 ≤ (wrap64 ((x6.length : Int) - 1)) then (if (wrap64 ((x6.length : Int) - 1)) < (x6.length : Int) then (if 0 < ((rd_L1 x6 (wrap64 ((x6.length : Int) - 1))).length : Int) then ((spec_l20Rd_pick.f k x1000 bt245.2 2).bind fun bt257 => (some ((x6.set ((wrap64 ((x6.length : Int) - 1)) : Int).toNat ((rd_L1 x6 (wrap64 ((x6.length : Int) - 1))).set (0 : Int).toNat (wrap64 ((wrap64 (1 - (rd (rd_L1 x6 (wrap64 ((x6.length : Int) - 1))) 0))) + bt257.1)))), bt257.2))) else (none)) else (none)) else (none))))) else (some (x6, bt243.2)))
end
def spec_l20Order.f (k : Nat) (s0_0 : List Int) (s0_1 : Int) (a1 : Int) : Option ((List (List Int)) × Int) := (spec_l20Rd_pick.f k s0_0 s0_1 6).bind fun bt204 => (spec_l20Order.l0 k a1 (wrap64 (1 + bt204.1)) (([] : List (List Int))) 0 s0_0 bt204.2)
/-! ### spec_l20Open: function 55 -/
def spec_l20Open.f (l0 : List Int) : Option (List Int × Int) := if (l0.length : Int) > 2000 then (if 2000 ≤ (l0.length : Int) then (some (l0.take 2000, 0)) else (none)) else (some (l0, 0))
/-! ### spec_DrawOrderOk: function 25 -/
def spec_DrawOrderOk.f (k : Nat) (l0 : List Int) : Option ((List (List Int))) := (spec_l20Open.f l0).bind fun bt267 => ((spec_l20Order.f k bt267.1 bt267.2 2).bind fun bt270 => (some bt270.1))
/-! ### impl_turned: function 56 -/
mutual
def impl_turned.l0 : Nat → List (List Int) → List (List Int) → Int → Int → Option ((List (List Int)))
  | 0, _, _, _, _ => none
  | k + 1, x0, x3, x10, x11 => if x11 < x10 then (if 0 ≤ (x0.length : Int) then (if ((x0.length : Int) : Int).toNat ≤ 35184372088832 then (if 0 ≤ x11 then (if x11 < (x3.length : Int) then (impl_turned.l1 k x0 (x3.set (x11 : Int).toNat (List.replicate ((x0.length : Int) : Int).toNat 0)) x11 x10 x11 (x0.length : Int) 0) else (none)) else (none)) else (none)) else (none)) else (some x3)
def impl_turned.l1 : Nat → List (List Int) → List (List Int) → Int → Int → Int → Int → Int → Option ((List (List Int)))
  | 0, _, _, _, _, _, _, _ => none
  | k + 1, x0, x3, x4, x10, x11, x21, x22 => if x22 < x21 then (if 0 ≤ x4 then (if x4 < (x3.length : Int) then (if 0 ≤ x22 then (if x22 < (x0.length : Int) then (if x4 < ((rd_L1 x0 x22).length : Int) then (if x22 < ((rd_L1 x3 x4).length : Int) then (impl_turned.l1 k x0 (x3.set (x4 : Int).toNat ((rd_L1 x3 x4).set (x22 : Int).toNat (rd (rd_L1 x0 x22) x4))) x4 x10 x11 x21 (wrap64 (x22 + 1))) else (none)) else (none)) else (none)) else (none)) else (none)) else (none)) else (impl_turned.l0 k x0 x3 x10 (wrap64 (x11 + 1)))
end
def impl_turned.f (k : Nat) (l0 : List (List Int)) : Option ((List (List Int))) := if 0 ≤ (l0.length : Int) then (if ((l0.length : Int) : Int).toNat ≤ 11728124029610 then (impl_turned.l0 k l0 (List.replicate ((l0.length : Int) : Int).toNat []) (l0.length : Int) 0) else (none)) else (none)
/-! ### impl_TurnedOf: function 26 -/
def impl_TurnedOf.f (k : Nat) (l0 : List (List Int)) : Option ((List (List Int))) := (impl_OrderOk.f k l0).bind fun t287 => (if t287 = true then ((impl_turned.f k l0).bind fun t288 => (some t288)) else (some ([] : List (List Int))))
/-! ### laws_alive: function 27 -/
def laws_alive.f (k : Nat)  : Option (Bool) := (impl_OrderOk.f k (([(([1] : List Int))] : List (List Int)))).bind fun t297 => (if t297 = true then ((impl_OrderOk.f k (([(([0] : List Int))] : List (List Int)))).bind fun t304 => (some (!t304))) else (some false))
/-! ### laws_FnOrderOk: function 6 -/
def laws_FnOrderOk.f (k : Nat) (l0 : List Int) : Option (Bool) := if (l0.length : Int) > 1048576 then (some true) else ((spec_DrawOrderOk.f k l0).bind fun t305 => ((impl_OrderOk.f k t305).bind fun t308 => ((spec_OrderOk.f k t305).bind fun t309 => (if (t308 != t309) = true then (some false) else ((impl_OrderOk.f k (([(([1] : List Int))] : List (List Int)))).bind fun t316 => (if t316 = true then (if t308 = true then ((impl_TurnedOf.f k t305).bind fun t317 => ((impl_OrderOk.f k t317).bind fun t320 => (if t320 = true then ((laws_alive.f k).bind fun t321 => (some t321)) else (some false)))) else ((laws_alive.f k).bind fun t322 => (some t322))) else (some false)))))))
/-- THE ONE PURE STATEMENT of laws_FnOrderOk: yours. -/
def laws_FnOrderOk.Pure : Prop := ∀ (l0 : List Int), l0.length ≤ maxLen → l0.length * 1 ≤ 140737488351232 → (∀ x ∈ l0, (Lit.int .u8 x).wf = true) → ∃ k, laws_FnOrderOk.f k l0 = some true
/-! ### spec_l1Meet: function 57 -/
mutual
def spec_l1Meet.l0 : Nat → List (List Int) → Int → Int → Int → Int → Option (Int)
  | 0, _, _, _, _, _ => none
  | k + 1, x0, x1, x2, x7, x8 => if x8 < (x0.length : Int) then (if 0 ≤ x8 then (if 0 ≤ x1 then (if x1 < ((rd_L1 x0 x8).length : Int) then (if (rd (rd_L1 x0 x8) x1) = 1 then (if 0 ≤ x2 then (if x2 < ((rd_L1 x0 x8).length : Int) then (if (rd (rd_L1 x0 x8) x2) = 1 then (if x7 < 0 then (spec_l1Meet.l0 k x0 x1 x2 x8 (wrap64 (x8 + 1))) else (if 0 ≤ x7 then (if x7 < (x0.length : Int) then (if x8 < ((rd_L1 x0 x7).length : Int) then (if (rd (rd_L1 x0 x7) x8) = 1 then (spec_l1Meet.l0 k x0 x1 x2 x8 (wrap64 (x8 + 1))) else (spec_l1Meet.l0 k x0 x1 x2 x7 (wrap64 (x8 + 1)))) else (none)) else (none)) else (none))) else (spec_l1Meet.l0 k x0 x1 x2 x7 (wrap64 (x8 + 1)))) else (none)) else (none)) else (spec_l1Meet.l0 k x0 x1 x2 x7 (wrap64 (x8 + 1)))) else (none)) else (none)) else (none)) else (spec_l1Meet.l1 k x0 x1 x2 x7 0)
def spec_l1Meet.l1 : Nat → List (List Int) → Int → Int → Int → Int → Option (Int)
  | 0, _, _, _, _, _ => none
  | k + 1, x0, x1, x2, x7, x9 => if x9 < (x0.length : Int) then (if 0 ≤ x9 then (if 0 ≤ x1 then (if x1 < ((rd_L1 x0 x9).length : Int) then (if (rd (rd_L1 x0 x9) x1) = 1 then (if 0 ≤ x2 then (if x2 < ((rd_L1 x0 x9).length : Int) then (if (rd (rd_L1 x0 x9) x2) = 1 then (if 0 ≤ x7 then (if x7 < ((rd_L1 x0 x9).length : Int) then (if (rd (rd_L1 x0 x9) x7) = 0 then (some (-1)) else (spec_l1Meet.l1 k x0 x1 x2 x7 (wrap64 (x9 + 1)))) else (none)) else (none)) else (spec_l1Meet.l1 k x0 x1 x2 x7 (wrap64 (x9 + 1)))) else (none)) else (none)) else (spec_l1Meet.l1 k x0 x1 x2 x7 (wrap64 (x9 + 1)))) else (none)) else (none)) else (none)) else (some x7)
end
def spec_l1Meet.f (k : Nat) (l0 : List (List Int)) (a1 : Int) (a2 : Int) : Option (Int) := spec_l1Meet.l0 k l0 a1 a2 (-1) 0
/-! ### spec_MeetOf: function 28 -/
def spec_MeetOf.f (k : Nat) (l0 : List (List Int)) (a1 : Int) (a2 : Int) : Option (Int × Bool) := (spec_OrderOk.f k l0).bind fun t335 => (if t335 = true then ((spec_l1In.f a1 0 (wrap64 ((l0.length : Int) - 1))).bind fun t336 => (if t336 = true then ((spec_l1In.f a2 0 (wrap64 ((l0.length : Int) - 1))).bind fun t337 => (if t337 = true then ((spec_l1Meet.f k l0 a1 a2).bind fun t338 => (some (t338, decide (t338 ≥ 0)))) else (some ((-1), false)))) else (some ((-1), false)))) else (some ((-1), false)))
/-! ### impl_isAnswer: function 58 -/
def impl_isAnswer.f (l0 : List (List Int)) (a1 : Int) : Option (Bool) := if a1 ≥ 0 then (some (decide (a1 < (l0.length : Int)))) else (some false)
/-! ### impl_meet: function 59 -/
mutual
def impl_meet.l0 : Nat → List (List Int) → Int → Int → Int → Int → Option (Int)
  | 0, _, _, _, _, _ => none
  | k + 1, x0, x1, x2, x11, x12 => if x12 < x11 then (if 0 ≤ x12 then (if x12 < (x0.length : Int) then (if 0 ≤ x1 then (if x1 < ((rd_L1 x0 x12).length : Int) then (if (rd (rd_L1 x0 x12) x1) = 0 then (impl_meet.j1 k x0 x1 x2 x12 x11 x12 true) else (if 0 ≤ x2 then (if x2 < ((rd_L1 x0 x12).length : Int) then (impl_meet.j1 k x0 x1 x2 x12 x11 x12 ((rd (rd_L1 x0 x12) x2) == 0)) else (none)) else (none))) else (none)) else (none)) else (none)) else (none)) else (some (-1))
def impl_meet.j1 : Nat → List (List Int) → Int → Int → Int → Int → Int → Bool → Option (Int)
  | 0, _, _, _, _, _, _, _ => none
  | k + 1, x0, x1, x2, x7, x11, x12, x32 => if x32 = true then (impl_meet.l0 k x0 x1 x2 x11 (wrap64 (x12 + 1))) else (impl_meet.l1 k x0 x1 x2 x7 true x11 x12 (x0.length : Int) 0)
def impl_meet.l1 : Nat → List (List Int) → Int → Int → Int → Bool → Int → Int → Int → Int → Option (Int)
  | 0, _, _, _, _, _, _, _, _, _ => none
  | k + 1, x0, x1, x2, x7, x8, x11, x12, x34, x35 => if x35 < x34 then (if x8 = true then (if 0 ≤ x35 then (if x35 < (x0.length : Int) then (if 0 ≤ x1 then (if x1 < ((rd_L1 x0 x35).length : Int) then (if (rd (rd_L1 x0 x35) x1) = 0 then (impl_meet.l1 k x0 x1 x2 x7 true x11 x12 x34 (wrap64 (x35 + 1))) else (if 0 ≤ x2 then (if x2 < ((rd_L1 x0 x35).length : Int) then (if (rd (rd_L1 x0 x35) x2) = 0 then (impl_meet.l1 k x0 x1 x2 x7 true x11 x12 x34 (wrap64 (x35 + 1))) else (if 0 ≤ x7 then (if x7 < ((rd_L1 x0 x35).length : Int) then (impl_meet.l1 k x0 x1 x2 x7 ((rd (rd_L1 x0 x35) x7) == 1) x11 x12 x34 (wrap64 (x35 + 1))) else (none)) else (none))) else (none)) else (none))) else (none)) else (none)) else (none)) else (none)) else (impl_meet.l1 k x0 x1 x2 x7 false x11 x12 x34 (wrap64 (x35 + 1)))) else (if x8 = true then (some x7) else (impl_meet.l0 k x0 x1 x2 x11 (wrap64 (x12 + 1))))
end
def impl_meet.f (k : Nat) (l0 : List (List Int)) (a1 : Int) (a2 : Int) : Option (Int) := impl_meet.l0 k l0 a1 a2 (l0.length : Int) 0
/-! ### impl_MeetOf: function 29 -/
def impl_MeetOf.f (k : Nat) (l0 : List (List Int)) (a1 : Int) (a2 : Int) : Option (Int × Bool) := (impl_OrderOk.f k l0).bind fun t349 => (if t349 = true then ((impl_isAnswer.f l0 a1).bind fun t350 => (if t350 = true then ((impl_isAnswer.f l0 a2).bind fun t351 => (if t351 = true then ((impl_meet.f k l0 a1 a2).bind fun t352 => (some (t352, decide (t352 ≥ 0)))) else (some ((-1), false)))) else (some ((-1), false)))) else (some ((-1), false)))
/-! ### laws_FnExactMeetOf: function 7 -/
def laws_FnExactMeetOf.j0 : Nat → List (List Int) → List (List Int) → Bool → Option (Bool)
  | 0, _, _, _ => none
  | k + 1, x0, x10, x42 => if x42 = true then (some false) else ((laws_toIntSS.f k x0).bind fun t364 => ((laws_eqIntSS.f k x10 t364).bind fun t367 => (if t367 = true then (some true) else (some false))))
def laws_FnExactMeetOf.f (k : Nat) (l0 : List (List Int)) (a1 : Int) (a2 : Int) : Option (Bool) := (laws_szIntSS.f k l0 1048576).bind fun t353 => (if t353 < 0 then (some true) else ((laws_toIntSS.f k l0).bind fun t354 => ((spec_MeetOf.f k t354 a1 a2).bind fun bt357 => ((laws_toIntSS.f k l0).bind fun t359 => ((impl_MeetOf.f k t359 a1 a2).bind fun bt362 => (if bt362.1 = bt357.1 then (laws_FnExactMeetOf.j0 k l0 t359 (bt362.2 != bt357.2)) else (laws_FnExactMeetOf.j0 k l0 t359 true)))))))
/-! ### spec_TurnedOf: function 30 -/
mutual
def spec_TurnedOf.l0 : Nat → List (List Int) → List (List Int) → Int → Option ((List (List Int)))
  | 0, _, _, _ => none
  | k + 1, x0, x3, x4 => if x4 < (x0.length : Int) then ((spec_OrderOk.f k x0).bind fun t371 => (spec_TurnedOf.j1 k x0 x3 x4 t371)) else (spec_TurnedOf.j1 k x0 x3 x4 false)
def spec_TurnedOf.j1 : Nat → List (List Int) → List (List Int) → Int → Bool → Option ((List (List Int)))
  | 0, _, _, _, _ => none
  | k + 1, x0, x3, x4, x15 => if x15 = true then (spec_TurnedOf.l1 k x0 x3 x4 (([] : List Int)) 0) else (some x3)
def spec_TurnedOf.l1 : Nat → List (List Int) → List (List Int) → Int → List Int → Int → Option ((List (List Int)))
  | 0, _, _, _, _, _ => none
  | k + 1, x0, x3, x4, x5, x6 => if x6 < (x0.length : Int) then (if 0 ≤ x6 then (if 0 ≤ x4 then (if x4 < ((rd_L1 x0 x6).length : Int) then (if x5.length < 17592186044416 then (spec_TurnedOf.l1 k x0 x3 x4 (x5 ++ [rd (rd_L1 x0 x6) x4]) (wrap64 (x6 + 1))) else (none)) else (none)) else (none)) else (none)) else (if x3.length < 5864062014805 then (spec_TurnedOf.l0 k x0 (x3 ++ [x5]) (wrap64 (x4 + 1))) else (none))
end
def spec_TurnedOf.f (k : Nat) (l0 : List (List Int)) : Option ((List (List Int))) := spec_TurnedOf.l0 k l0 (([] : List (List Int))) 0
/-! ### laws_markIntS: function 44 -/
def laws_markIntS.l0 : Nat → List Int → Int → Int → Option (Int × List Int)
  | 0, _, _, _ => none
  | k + 1, x0, x1, x5 => if x5 < (x0.length : Int) then (if 0 ≤ x5 then (laws_markIntS.l0 k (x0.set (x5 : Int).toNat x1) (wrap64 (x1 + 1)) (wrap64 (x5 + 1))) else (none)) else (some (x1, x0))
def laws_markIntS.f (k : Nat) (l0 : List Int) (a1 : Int) : Option (Int × List Int) := laws_markIntS.l0 k l0 a1 0
/-! ### laws_heldIntS: function 45 -/
def laws_heldIntS.l0 : Nat → List Int → Int → Int → Option (Int)
  | 0, _, _, _ => none
  | k + 1, x0, x1, x5 => if x5 < (x0.length : Int) then (if 0 ≤ x5 then (if (rd x0 x5) = x1 then (laws_heldIntS.l0 k x0 (wrap64 (x1 + 1)) (wrap64 (x5 + 1))) else (some (-1))) else (none)) else (some x1)
def laws_heldIntS.f (k : Nat) (l0 : List Int) (a1 : Int) : Option (Int) := laws_heldIntS.l0 k l0 a1 0
/-! ### laws_heldIntSS: function 32 -/
def laws_heldIntSS.l0 : Nat → List (List Int) → Int → Int → Option (Int)
  | 0, _, _, _ => none
  | k + 1, x0, x1, x5 => if x5 < (x0.length : Int) then (if 0 ≤ x5 then ((laws_heldIntS.f k (rd_L1 x0 x5) x1).bind fun t387 => (if t387 < 0 then (some (-1)) else (laws_heldIntSS.l0 k x0 t387 (wrap64 (x5 + 1))))) else (none)) else (some x1)
def laws_heldIntSS.f (k : Nat) (l0 : List (List Int)) (a1 : Int) : Option (Int) := laws_heldIntSS.l0 k l0 a1 0
/-! ### spec_l1Join: function 60 -/
mutual
def spec_l1Join.l0 : Nat → List (List Int) → Int → Int → Int → Int → Option (Int)
  | 0, _, _, _, _, _ => none
  | k + 1, x0, x1, x2, x7, x8 => if x8 < (x0.length : Int) then (if 0 ≤ x1 then (if x1 < (x0.length : Int) then (if 0 ≤ x8 then (if x8 < ((rd_L1 x0 x1).length : Int) then (if (rd (rd_L1 x0 x1) x8) = 1 then (if 0 ≤ x2 then (if x2 < (x0.length : Int) then (if x8 < ((rd_L1 x0 x2).length : Int) then (if (rd (rd_L1 x0 x2) x8) = 1 then (if x7 < 0 then (spec_l1Join.l0 k x0 x1 x2 x8 (wrap64 (x8 + 1))) else (if 0 ≤ x7 then (if x7 < ((rd_L1 x0 x8).length : Int) then (if (rd (rd_L1 x0 x8) x7) = 1 then (spec_l1Join.l0 k x0 x1 x2 x8 (wrap64 (x8 + 1))) else (spec_l1Join.l0 k x0 x1 x2 x7 (wrap64 (x8 + 1)))) else (none)) else (none))) else (spec_l1Join.l0 k x0 x1 x2 x7 (wrap64 (x8 + 1)))) else (none)) else (none)) else (none)) else (spec_l1Join.l0 k x0 x1 x2 x7 (wrap64 (x8 + 1)))) else (none)) else (none)) else (none)) else (none)) else (spec_l1Join.l1 k x0 x1 x2 x7 0)
def spec_l1Join.l1 : Nat → List (List Int) → Int → Int → Int → Int → Option (Int)
  | 0, _, _, _, _, _ => none
  | k + 1, x0, x1, x2, x7, x9 => if x9 < (x0.length : Int) then (if 0 ≤ x1 then (if x1 < (x0.length : Int) then (if 0 ≤ x9 then (if x9 < ((rd_L1 x0 x1).length : Int) then (if (rd (rd_L1 x0 x1) x9) = 1 then (if 0 ≤ x2 then (if x2 < (x0.length : Int) then (if x9 < ((rd_L1 x0 x2).length : Int) then (if (rd (rd_L1 x0 x2) x9) = 1 then (if 0 ≤ x7 then (if x7 < (x0.length : Int) then (if x9 < ((rd_L1 x0 x7).length : Int) then (if (rd (rd_L1 x0 x7) x9) = 0 then (some (-1)) else (spec_l1Join.l1 k x0 x1 x2 x7 (wrap64 (x9 + 1)))) else (none)) else (none)) else (none)) else (spec_l1Join.l1 k x0 x1 x2 x7 (wrap64 (x9 + 1)))) else (none)) else (none)) else (none)) else (spec_l1Join.l1 k x0 x1 x2 x7 (wrap64 (x9 + 1)))) else (none)) else (none)) else (none)) else (none)) else (some x7)
end
def spec_l1Join.f (k : Nat) (l0 : List (List Int)) (a1 : Int) (a2 : Int) : Option (Int) := spec_l1Join.l0 k l0 a1 a2 (-1) 0
/-! ### spec_JoinOf: function 33 -/
def spec_JoinOf.f (k : Nat) (l0 : List (List Int)) (a1 : Int) (a2 : Int) : Option (Int × Bool) := (spec_OrderOk.f k l0).bind fun t418 => (if t418 = true then ((spec_l1In.f a1 0 (wrap64 ((l0.length : Int) - 1))).bind fun t419 => (if t419 = true then ((spec_l1In.f a2 0 (wrap64 ((l0.length : Int) - 1))).bind fun t420 => (if t420 = true then ((spec_l1Join.f k l0 a1 a2).bind fun t421 => (some (t421, decide (t421 ≥ 0)))) else (some ((-1), false)))) else (some ((-1), false)))) else (some ((-1), false)))
/-! ### impl_JoinOf: function 34 -/
def impl_JoinOf.f (k : Nat) (l0 : List (List Int)) (a1 : Int) (a2 : Int) : Option (Int × Bool) := (impl_TurnedOf.f k l0).bind fun t422 => ((impl_MeetOf.f k t422 a1 a2).bind fun bt425 => (some (bt425.1, bt425.2)))
/-! ### laws_FnExactJoinOf: function 9 -/
def laws_FnExactJoinOf.j0 : Nat → List (List Int) → List (List Int) → Bool → Option (Bool)
  | 0, _, _, _ => none
  | k + 1, x0, x10, x42 => if x42 = true then (some false) else ((laws_toIntSS.f k x0).bind fun t438 => ((laws_eqIntSS.f k x10 t438).bind fun t441 => (if t441 = true then (some true) else (some false))))
def laws_FnExactJoinOf.f (k : Nat) (l0 : List (List Int)) (a1 : Int) (a2 : Int) : Option (Bool) := (laws_szIntSS.f k l0 1048576).bind fun t427 => (if t427 < 0 then (some true) else ((laws_toIntSS.f k l0).bind fun t428 => ((spec_JoinOf.f k t428 a1 a2).bind fun bt431 => ((laws_toIntSS.f k l0).bind fun t433 => ((impl_JoinOf.f k t433 a1 a2).bind fun bt436 => (if bt436.1 = bt431.1 then (laws_FnExactJoinOf.j0 k l0 t433 (bt436.2 != bt431.2)) else (laws_FnExactJoinOf.j0 k l0 t433 true)))))))
/-! ### spec_DrawTurnedOf: function 35 -/
def spec_DrawTurnedOf.f (k : Nat) (l0 : List Int) : Option ((List (List Int))) := (spec_l20Open.f l0).bind fun bt442 => ((spec_l20Order.f k bt442.1 bt442.2 9).bind fun bt445 => (some bt445.1))
/-! ### laws_sameInts: function 48 -/
def laws_sameInts.l0 : Nat → List Int → List Int → Int → Option (Bool)
  | 0, _, _, _ => none
  | k + 1, x0, x1, x5 => if x5 < (x0.length : Int) then (if 0 ≤ x5 then (if x5 < (x1.length : Int) then (if (rd x0 x5) = (rd x1 x5) then (laws_sameInts.l0 k x0 x1 (wrap64 (x5 + 1))) else (some false)) else (none)) else (none)) else (some true)
def laws_sameInts.f (k : Nat) (l0 : List Int) (l1 : List Int) : Option (Bool) := if (l0.length : Int) = (l1.length : Int) then (laws_sameInts.l0 k l0 l1 0) else (some false)
/-! ### laws_sameRows: function 36 -/
def laws_sameRows.l0 : Nat → List (List Int) → List (List Int) → Int → Option (Bool)
  | 0, _, _, _ => none
  | k + 1, x0, x1, x5 => if x5 < (x0.length : Int) then (if 0 ≤ x5 then (if x5 < (x1.length : Int) then ((laws_sameInts.f k (rd_L1 x0 x5) (rd_L1 x1 x5)).bind fun t453 => (if t453 = true then (laws_sameRows.l0 k x0 x1 (wrap64 (x5 + 1))) else (some false))) else (none)) else (none)) else (some true)
def laws_sameRows.f (k : Nat) (l0 : List (List Int)) (l1 : List (List Int)) : Option (Bool) := if (l0.length : Int) = (l1.length : Int) then (laws_sameRows.l0 k l0 l1 0) else (some false)
/-! ### laws_FnTurnedOf: function 10 -/
def laws_FnTurnedOf.f (k : Nat) (l0 : List Int) : Option (Bool) := if (l0.length : Int) > 1048576 then (some true) else ((spec_DrawTurnedOf.f k l0).bind fun t454 => ((impl_TurnedOf.f k t454).bind fun t457 => ((spec_TurnedOf.f k t454).bind fun t460 => ((laws_sameRows.f k t457 t460).bind fun t463 => (if t463 = true then (if (t457.length : Int) = 0 then ((impl_OrderOk.f k t454).bind fun t464 => (if t464 = true then (some false) else ((laws_alive.f k).bind fun t465 => (some t465)))) else ((impl_OrderOk.f k t457).bind fun t466 => (if t466 = true then ((impl_TurnedOf.f k t457).bind fun t467 => ((laws_sameRows.f k t467 t454).bind fun t470 => (some t470))) else (some false)))) else (some false))))))
/-- THE ONE PURE STATEMENT of laws_FnTurnedOf: yours. -/
def laws_FnTurnedOf.Pure : Prop := ∀ (l0 : List Int), l0.length ≤ maxLen → l0.length * 1 ≤ 140737488351232 → (∀ x ∈ l0, (Lit.int .u8 x).wf = true) → ∃ k, laws_FnTurnedOf.f k l0 = some true
/-! ### spec_l20Pair: function 61 -/
def spec_l20Pair.f (k : Nat) (s0_0 : List Int) (s0_1 : Int) : Option ((List (List Int)) × Int × Int × Int) := (spec_l20Order.f k s0_0 s0_1 14).bind fun bt471 => ((spec_l20Rd_pick.f k s0_0 bt471.2 (mx (bt471.1.length : Int) 1)).bind fun bt475 => ((spec_l20Rd_pick.f k s0_0 bt475.2 30).bind fun bt477 => ((spec_l20Rd_pick.f k s0_0 bt477.2 (mx (bt471.1.length : Int) 1)).bind fun bt479 => ((spec_l20Rd_pick.f k s0_0 bt479.2 30).bind fun bt481 => (some (bt471.1, wrap64 (bt475.1 + (wrap64 ((wrap64 (Int.tdiv bt477.1 29)) * 12))), wrap64 (bt479.1 - (wrap64 ((wrap64 (Int.tdiv bt481.1 29)) * 12))), bt481.2))))))
/-! ### spec_DrawMeetOf: function 37 -/
def spec_DrawMeetOf.f (k : Nat) (l0 : List Int) : Option ((List (List Int)) × Int × Int) := (spec_l20Open.f l0).bind fun bt483 => ((spec_l20Pair.f k bt483.1 bt483.2).bind fun bt486 => (some (bt486.1, bt486.2.1, bt486.2.2.1)))
/-! ### laws_FnMeetOf: function 11 -/
mutual
def laws_FnMeetOf.j0 : Nat → List (List Int) → Int → Int → Int → Bool → Bool → Option (Bool)
  | 0, _, _, _, _, _, _ => none
  | k + 1, x3, x4, x5, x6, x7, x45 => if x45 = true then (some false) else (if x7 = true then (laws_FnMeetOf.l0 k x3 x4 x5 x6 0) else (if x6 = (-1) then ((laws_alive.f k).bind fun t501 => (some t501)) else (some false)))
def laws_FnMeetOf.l0 : Nat → List (List Int) → Int → Int → Int → Int → Option (Bool)
  | 0, _, _, _, _, _ => none
  | k + 1, x3, x4, x5, x6, x10 => if x10 < (x3.length : Int) then (if 0 ≤ x10 then (if 0 ≤ x4 then (if x4 < ((rd_L1 x3 x10).length : Int) then (if (rd (rd_L1 x3 x10) x4) = 1 then (if 0 ≤ x5 then (if x5 < ((rd_L1 x3 x10).length : Int) then (if (rd (rd_L1 x3 x10) x5) = 1 then (if 0 ≤ x6 then (if x6 < ((rd_L1 x3 x10).length : Int) then (if (rd (rd_L1 x3 x10) x6) = 0 then (some false) else (laws_FnMeetOf.l0 k x3 x4 x5 x6 (wrap64 (x10 + 1)))) else (none)) else (none)) else (laws_FnMeetOf.l0 k x3 x4 x5 x6 (wrap64 (x10 + 1)))) else (none)) else (none)) else (laws_FnMeetOf.l0 k x3 x4 x5 x6 (wrap64 (x10 + 1)))) else (none)) else (none)) else (none)) else ((impl_MeetOf.f k x3 x5 x4).bind fun bt508 => ((impl_MeetOf.f k x3 x4 x4).bind fun bt510 => (if 0 ≤ x6 then (if x6 < (x3.length : Int) then (if 0 ≤ x4 then (if x4 < ((rd_L1 x3 x6).length : Int) then (if (rd (rd_L1 x3 x6) x4) = 1 then (if 0 ≤ x5 then (if x5 < ((rd_L1 x3 x6).length : Int) then (if (rd (rd_L1 x3 x6) x5) = 1 then (if bt508.2 = true then (if bt508.1 = x6 then (if bt510.2 = true then (some (bt510.1 == x4)) else (some false)) else (some false)) else (some false)) else (some false)) else (none)) else (none)) else (some false)) else (none)) else (none)) else (none)) else (none))))
end
def laws_FnMeetOf.f (k : Nat) (l0 : List Int) : Option (Bool) := if (l0.length : Int) > 1048576 then (some true) else ((spec_DrawMeetOf.f k l0).bind fun bt492 => ((impl_MeetOf.f k bt492.1 bt492.2.1 bt492.2.2).bind fun bt497 => ((spec_MeetOf.f k bt492.1 bt492.2.1 bt492.2.2).bind fun bt499 => (if bt497.1 = bt499.1 then (laws_FnMeetOf.j0 k bt492.1 bt492.2.1 bt492.2.2 bt497.1 bt497.2 (bt497.2 != bt499.2)) else (laws_FnMeetOf.j0 k bt492.1 bt492.2.1 bt492.2.2 bt497.1 bt497.2 true)))))
/-- THE ONE PURE STATEMENT of laws_FnMeetOf: yours. -/
def laws_FnMeetOf.Pure : Prop := ∀ (l0 : List Int), l0.length ≤ maxLen → l0.length * 1 ≤ 140737488351232 → (∀ x ∈ l0, (Lit.int .u8 x).wf = true) → ∃ k, laws_FnMeetOf.f k l0 = some true
/-! ### spec_DrawLeastOf: function 38 -/
def spec_DrawLeastOf.f (k : Nat) (l0 : List Int) : Option ((List (List Int))) := (spec_l20Open.f l0).bind fun bt516 => ((spec_l20Order.f k bt516.1 bt516.2 9).bind fun bt519 => (some bt519.1))
/-! ### laws_FnLeastOf: function 12 -/
mutual
def laws_FnLeastOf.j0 : Nat → List (List Int) → Int → Bool → Bool → Option (Bool)
  | 0, _, _, _, _ => none
  | k + 1, x3, x4, x5, x33 => if x33 = true then (some false) else (if x5 = true then (laws_FnLeastOf.l0 k x3 x4 0) else (if x4 = (-1) then ((laws_alive.f k).bind fun t530 => (some t530)) else (some false)))
def laws_FnLeastOf.l0 : Nat → List (List Int) → Int → Int → Option (Bool)
  | 0, _, _, _ => none
  | k + 1, x3, x4, x8 => if x8 < (x3.length : Int) then ((impl_MeetOf.f k x3 x4 x8).bind fun bt531 => (if 0 ≤ x4 then (if x4 < (x3.length : Int) then (if 0 ≤ x8 then (if x8 < ((rd_L1 x3 x4).length : Int) then (if (rd (rd_L1 x3 x4) x8) = 1 then (if bt531.2 = true then (if bt531.1 = x4 then (laws_FnLeastOf.l0 k x3 x4 (wrap64 (x8 + 1))) else (some false)) else (some false)) else (some false)) else (none)) else (none)) else (none)) else (none))) else (some true)
end
def laws_FnLeastOf.f (k : Nat) (l0 : List Int) : Option (Bool) := if (l0.length : Int) > 1048576 then (some true) else ((spec_DrawLeastOf.f k l0).bind fun t523 => ((impl_LeastOf.f k t523).bind fun bt526 => ((spec_LeastOf.f k t523).bind fun bt528 => (if bt526.1 = bt528.1 then (laws_FnLeastOf.j0 k t523 bt526.1 bt526.2 (bt526.2 != bt528.2)) else (laws_FnLeastOf.j0 k t523 bt526.1 bt526.2 true)))))
/-- THE ONE PURE STATEMENT of laws_FnLeastOf: yours. -/
def laws_FnLeastOf.Pure : Prop := ∀ (l0 : List Int), l0.length ≤ maxLen → l0.length * 1 ≤ 140737488351232 → (∀ x ∈ l0, (Lit.int .u8 x).wf = true) → ∃ k, laws_FnLeastOf.f k l0 = some true
/-! ### spec_LatticeOk: function 39 -/
mutual
def spec_LatticeOk.l0 : Nat → List (List Int) → Int → Option (Bool)
  | 0, _, _ => none
  | k + 1, x0, x3 => if x3 < (x0.length : Int) then ((spec_OrderOk.f k x0).bind fun t535 => (spec_LatticeOk.j1 k x0 x3 t535)) else (spec_LatticeOk.j1 k x0 x3 false)
def spec_LatticeOk.j1 : Nat → List (List Int) → Int → Bool → Option (Bool)
  | 0, _, _, _ => none
  | k + 1, x0, x3, x12 => if x12 = true then (spec_LatticeOk.l1 k x0 x3 0) else ((spec_OrderOk.f k x0).bind fun t536 => (some t536))
def spec_LatticeOk.l1 : Nat → List (List Int) → Int → Int → Option (Bool)
  | 0, _, _, _ => none
  | k + 1, x0, x3, x4 => if x4 < x3 then ((spec_l1Meet.f k x0 x3 x4).bind fun t537 => (if t537 < 0 then (some false) else ((spec_l1Join.f k x0 x3 x4).bind fun t538 => (if t538 < 0 then (some false) else (spec_LatticeOk.l1 k x0 x3 (wrap64 (x4 + 1))))))) else (spec_LatticeOk.l0 k x0 (wrap64 (x3 + 1)))
end
def spec_LatticeOk.f (k : Nat) (l0 : List (List Int)) : Option (Bool) := spec_LatticeOk.l0 k l0 0
/-! ### impl_LatticeOk: function 40 -/
mutual
def impl_LatticeOk.l0 : Nat → List (List Int) → List (List Int) → Int → Int → Option (Bool)
  | 0, _, _, _, _ => none
  | k + 1, x0, x3, x12, x13 => if x13 < x12 then (impl_LatticeOk.l1 k x0 x3 x13 x12 x13 (x0.length : Int) 0) else (some true)
def impl_LatticeOk.l1 : Nat → List (List Int) → List (List Int) → Int → Int → Int → Int → Int → Option (Bool)
  | 0, _, _, _, _, _, _, _ => none
  | k + 1, x0, x3, x4, x12, x13, x17, x18 => if x18 < x17 then ((impl_meet.f k x0 x4 x18).bind fun t543 => (if t543 < 0 then (some false) else ((impl_meet.f k x3 x4 x18).bind fun t544 => (if t544 < 0 then (some false) else (impl_LatticeOk.l1 k x0 x3 x4 x12 x13 x17 (wrap64 (x18 + 1))))))) else (impl_LatticeOk.l0 k x0 x3 x12 (wrap64 (x13 + 1)))
end
def impl_LatticeOk.f (k : Nat) (l0 : List (List Int)) : Option (Bool) := (impl_OrderOk.f k l0).bind fun t539 => (if t539 = true then ((impl_turned.f k l0).bind fun t540 => (impl_LatticeOk.l0 k l0 t540 (l0.length : Int) 0)) else (some false))
/-! ### laws_FnExactLatticeOk: function 13 -/
def laws_FnExactLatticeOk.f (k : Nat) (l0 : List (List Int)) : Option (Bool) := (laws_szIntSS.f k l0 1048576).bind fun t545 => (if t545 < 0 then (some true) else ((laws_toIntSS.f k l0).bind fun t546 => ((spec_LatticeOk.f k t546).bind fun t549 => ((laws_toIntSS.f k l0).bind fun t550 => ((impl_LatticeOk.f k t550).bind fun t553 => (if (t553 != t549) = true then (some false) else ((laws_toIntSS.f k l0).bind fun t554 => ((laws_eqIntSS.f k t550 t554).bind fun t557 => (if t557 = true then (some true) else (some false))))))))))
/-! ### spec_AtomsOf: function 41 -/
mutual
def spec_AtomsOf.l0 : Nat → List (List Int) → List Int → Int → Bool → Int → Option (List Int)
  | 0, _, _, _, _, _ => none
  | k + 1, x0, x3, x4, x5, x6 => if x6 < (x0.length : Int) then (spec_AtomsOf.j1 k x0 x3 x4 x5 x6 x5) else (spec_AtomsOf.j1 k x0 x3 x4 x5 x6 false)
def spec_AtomsOf.j1 : Nat → List (List Int) → List Int → Int → Bool → Int → Bool → Option (List Int)
  | 0, _, _, _, _, _, _ => none
  | k + 1, x0, x3, x4, x5, x6, x21 => if x21 = true then (spec_AtomsOf.l1 k x0 x3 x4 x5 x6 0 0) else (some x3)
def spec_AtomsOf.l1 : Nat → List (List Int) → List Int → Int → Bool → Int → Int → Int → Option (List Int)
  | 0, _, _, _, _, _, _, _ => none
  | k + 1, x0, x3, x4, x5, x6, x7, x8 => if x8 < (x0.length : Int) then (if 0 ≤ x8 then (if 0 ≤ x6 then (if x6 < ((rd_L1 x0 x8).length : Int) then (spec_AtomsOf.l1 k x0 x3 x4 x5 x6 (wrap64 (x7 + (rd (rd_L1 x0 x8) x6))) (wrap64 (x8 + 1))) else (none)) else (none)) else (none)) else (if x7 = 2 then (if x6 = x4 then (spec_AtomsOf.l0 k x0 x3 x4 x5 (wrap64 (x6 + 1))) else (if x3.length < 17592186044416 then (spec_AtomsOf.l0 k x0 (x3 ++ [x6]) x4 x5 (wrap64 (x6 + 1))) else (none))) else (spec_AtomsOf.l0 k x0 x3 x4 x5 (wrap64 (x6 + 1))))
end
def spec_AtomsOf.f (k : Nat) (l0 : List (List Int)) : Option (List Int) := (spec_LeastOf.f k l0).bind fun bt561 => (spec_AtomsOf.l0 k l0 (([] : List Int)) bt561.1 bt561.2 0)
/-! ### impl_AtomsOf: function 42 -/
mutual
def impl_AtomsOf.l0 : Nat → List (List Int) → Int → List Int → Int → Int → Option (List Int)
  | 0, _, _, _, _, _ => none
  | k + 1, x0, x3, x5, x18, x19 => if x19 < x18 then (impl_AtomsOf.l1 k x0 x3 x5 x19 0 x18 x19 (x0.length : Int) 0) else (some x5)
def impl_AtomsOf.l1 : Nat → List (List Int) → Int → List Int → Int → Int → Int → Int → Int → Int → Option (List Int)
  | 0, _, _, _, _, _, _, _, _, _ => none
  | k + 1, x0, x3, x5, x6, x7, x18, x19, x23, x24 => if x24 < x23 then (if 0 ≤ x24 then (if x24 < (x0.length : Int) then (if 0 ≤ x6 then (if x6 < ((rd_L1 x0 x24).length : Int) then (impl_AtomsOf.l1 k x0 x3 x5 x6 (wrap64 (x7 + (rd (rd_L1 x0 x24) x6))) x18 x19 x23 (wrap64 (x24 + 1))) else (none)) else (none)) else (none)) else (none)) else (if x6 = x3 then (impl_AtomsOf.l0 k x0 x3 x5 x18 (wrap64 (x19 + 1))) else (if x7 = 2 then (if x5.length < 17592186044416 then (impl_AtomsOf.l0 k x0 x3 (x5 ++ [x6]) x18 (wrap64 (x19 + 1))) else (none)) else (impl_AtomsOf.l0 k x0 x3 x5 x18 (wrap64 (x19 + 1)))))
end
def impl_AtomsOf.f (k : Nat) (l0 : List (List Int)) : Option (List Int) := (impl_LeastOf.f k l0).bind fun bt568 => (if bt568.2 = true then (impl_AtomsOf.l0 k l0 bt568.1 (([] : List Int)) (l0.length : Int) 0) else (some ([] : List Int)))
/-! ### spec_DrawJoinOf: function 46 -/
def spec_DrawJoinOf.f (k : Nat) (l0 : List Int) : Option ((List (List Int)) × Int × Int) := (spec_l20Open.f l0).bind fun bt596 => ((spec_l20Pair.f k bt596.1 bt596.2).bind fun bt599 => (some (bt599.1, bt599.2.1, bt599.2.2.1)))
/-! ### laws_FnJoinOf: function 15 -/
mutual
def laws_FnJoinOf.j0 : Nat → List (List Int) → Int → Int → Int → Bool → Bool → Option (Bool)
  | 0, _, _, _, _, _, _ => none
  | k + 1, x3, x4, x5, x6, x7, x42 => if x42 = true then (some false) else ((impl_TurnedOf.f k x3).bind fun t614 => ((impl_MeetOf.f k t614 x4 x5).bind fun bt617 => (if bt617.1 = x6 then (laws_FnJoinOf.j1 k x3 x4 x5 x6 x7 (bt617.2 != x7)) else (laws_FnJoinOf.j1 k x3 x4 x5 x6 x7 true))))
def laws_FnJoinOf.j1 : Nat → List (List Int) → Int → Int → Int → Bool → Bool → Option (Bool)
  | 0, _, _, _, _, _, _ => none
  | k + 1, x3, x4, x5, x6, x7, x58 => if x58 = true then (some false) else (if x7 = true then (if 0 ≤ x4 then (if x4 < (x3.length : Int) then (if 0 ≤ x6 then (if x6 < ((rd_L1 x3 x4).length : Int) then (if (rd (rd_L1 x3 x4) x6) = 1 then (if 0 ≤ x5 then (if x5 < (x3.length : Int) then (if x6 < ((rd_L1 x3 x5).length : Int) then (if (rd (rd_L1 x3 x5) x6) = 1 then (if x5 < ((rd_L1 x3 x4).length : Int) then (if (rd (rd_L1 x3 x4) x5) = 0 then (some true) else (some (x6 == x5))) else (none)) else (some false)) else (none)) else (none)) else (none)) else (some false)) else (none)) else (none)) else (none)) else (none)) else (if x6 = (-1) then ((laws_alive.f k).bind fun t625 => (some t625)) else (some false)))
end
def laws_FnJoinOf.f (k : Nat) (l0 : List Int) : Option (Bool) := if (l0.length : Int) > 1048576 then (some true) else ((spec_DrawJoinOf.f k l0).bind fun bt605 => ((impl_JoinOf.f k bt605.1 bt605.2.1 bt605.2.2).bind fun bt610 => ((spec_JoinOf.f k bt605.1 bt605.2.1 bt605.2.2).bind fun bt612 => (if bt610.1 = bt612.1 then (laws_FnJoinOf.j0 k bt605.1 bt605.2.1 bt605.2.2 bt610.1 bt610.2 (bt610.2 != bt612.2)) else (laws_FnJoinOf.j0 k bt605.1 bt605.2.1 bt605.2.2 bt610.1 bt610.2 true)))))
/-- THE ONE PURE STATEMENT of laws_FnJoinOf: yours. -/
def laws_FnJoinOf.Pure : Prop := ∀ (l0 : List Int), l0.length ≤ maxLen → l0.length * 1 ≤ 140737488351232 → (∀ x ∈ l0, (Lit.int .u8 x).wf = true) → ∃ k, laws_FnJoinOf.f k l0 = some true
/-! ### spec_DrawAtomsOf: function 47 -/
def spec_DrawAtomsOf.f (k : Nat) (l0 : List Int) : Option ((List (List Int))) := (spec_l20Open.f l0).bind fun bt626 => ((spec_l20Order.f k bt626.1 bt626.2 9).bind fun bt629 => (some bt629.1))
/-! ### laws_ascend: function 49 -/
def laws_ascend.l0 : Nat → List Int → Int → Option (Bool)
  | 0, _, _ => none
  | k + 1, x0, x3 => if x3 < (x0.length : Int) then (if 0 ≤ (wrap64 (x3 - 1)) then (if (wrap64 (x3 - 1)) < (x0.length : Int) then (if 0 ≤ x3 then (if (rd x0 (wrap64 (x3 - 1))) ≥ (rd x0 x3) then (some false) else (laws_ascend.l0 k x0 (wrap64 (x3 + 1)))) else (none)) else (none)) else (none)) else (some true)
def laws_ascend.f (k : Nat) (l0 : List Int) : Option (Bool) := laws_ascend.l0 k l0 1
/-! ### laws_FnAtomsOf: function 16 -/
mutual
def laws_FnAtomsOf.l0 : Nat → List (List Int) → List Int → Int → Int → Option (Bool)
  | 0, _, _, _, _ => none
  | k + 1, x3, x4, x5, x7 => if x7 < (x3.length : Int) then (laws_FnAtomsOf.l1 k x3 x4 x5 x7 (x7 == x5) 0) else (laws_FnAtomsOf.l2 k x3 x4 x5 1)
def laws_FnAtomsOf.l1 : Nat → List (List Int) → List Int → Int → Int → Bool → Int → Option (Bool)
  | 0, _, _, _, _, _, _ => none
  | k + 1, x3, x4, x5, x7, x8, x9 => if x9 < (x4.length : Int) then (if x8 = true then (laws_FnAtomsOf.l1 k x3 x4 x5 x7 true (wrap64 (x9 + 1))) else (if 0 ≤ x9 then (if 0 ≤ (rd x4 x9) then (if (rd x4 x9) < (x3.length : Int) then (if 0 ≤ x7 then (if x7 < ((rd_L1 x3 (rd x4 x9)).length : Int) then (laws_FnAtomsOf.l1 k x3 x4 x5 x7 ((rd (rd_L1 x3 (rd x4 x9)) x7) == 1) (wrap64 (x9 + 1))) else (none)) else (none)) else (none)) else (none)) else (none))) else (if x8 = true then (laws_FnAtomsOf.l0 k x3 x4 x5 (wrap64 (x7 + 1))) else (some false))
def laws_FnAtomsOf.l2 : Nat → List (List Int) → List Int → Int → Int → Option (Bool)
  | 0, _, _, _, _ => none
  | k + 1, x3, x4, x5, x10 => if x10 < (x4.length : Int) then (if 0 ≤ (wrap64 (x10 - 1)) then (if (wrap64 (x10 - 1)) < (x4.length : Int) then (if 0 ≤ x10 then ((impl_MeetOf.f k x3 (rd x4 (wrap64 (x10 - 1))) (rd x4 x10)).bind fun bt653 => (if bt653.2 = true then (if bt653.1 = x5 then (laws_FnAtomsOf.l2 k x3 x4 x5 (wrap64 (x10 + 1))) else (some false)) else (some false))) else (none)) else (none)) else (none)) else ((laws_ascend.f k x4).bind fun t655 => (if t655 = true then ((laws_alive.f k).bind fun t656 => (some t656)) else (some false)))
end
def laws_FnAtomsOf.f (k : Nat) (l0 : List Int) : Option (Bool) := if (l0.length : Int) > 1048576 then (some true) else ((spec_DrawAtomsOf.f k l0).bind fun t635 => ((impl_AtomsOf.f k t635).bind fun t638 => ((spec_AtomsOf.f k t635).bind fun t641 => ((laws_sameInts.f k t638 t641).bind fun t644 => (if t644 = true then ((spec_LeastOf.f k t635).bind fun bt645 => (if bt645.2 = true then (laws_FnAtomsOf.l0 k t635 t638 bt645.1 0) else (if (t638.length : Int) = 0 then ((laws_alive.f k).bind fun t647 => (some t647)) else (some false)))) else (some false))))))
/-- THE ONE PURE STATEMENT of laws_FnAtomsOf: yours. -/
def laws_FnAtomsOf.Pure : Prop := ∀ (l0 : List Int), l0.length ≤ maxLen → l0.length * 1 ≤ 140737488351232 → (∀ x ∈ l0, (Lit.int .u8 x).wf = true) → ∃ k, laws_FnAtomsOf.f k l0 = some true
/-! ### spec_DrawLatticeOk: function 50 -/
def spec_DrawLatticeOk.f (k : Nat) (l0 : List Int) : Option ((List (List Int))) := (spec_l20Open.f l0).bind fun bt657 => ((spec_l20Order.f k bt657.1 bt657.2 9).bind fun bt660 => (some bt660.1))
/-! ### laws_FnLatticeOk: function 17 -/
def laws_FnLatticeOk.l0 : Nat → List (List Int) → Bool → Bool → Int → Option (Bool)
  | 0, _, _, _, _ => none
  | k + 1, x3, x7, x9, x10 => if x10 < (x3.length : Int) then ((impl_JoinOf.f k x3 x10 (wrap64 ((wrap64 ((x3.length : Int) - 1)) - x10))).bind fun bt678 => ((impl_MeetOf.f k x3 x10 bt678.1).bind fun bt680 => (if bt678.2 = true then (if bt680.2 = true then (if bt680.1 = x10 then (laws_FnLatticeOk.l0 k x3 x7 x9 (wrap64 (x10 + 1))) else (some false)) else (some false)) else (some false)))) else (if x7 = true then (some x9) else (some false))
def laws_FnLatticeOk.f (k : Nat) (l0 : List Int) : Option (Bool) := if (l0.length : Int) > 1048576 then (some true) else ((spec_DrawLatticeOk.f k l0).bind fun t664 => ((impl_LatticeOk.f k t664).bind fun t667 => ((spec_LatticeOk.f k t664).bind fun t668 => (if (t667 != t668) = true then (some false) else ((impl_TurnedOf.f k t664).bind fun t669 => ((impl_LatticeOk.f k t669).bind fun t672 => (if (t672 != t667) = true then (some false) else (if t667 = true then ((impl_LeastOf.f k t664).bind fun bt674 => ((impl_LeastOf.f k t669).bind fun bt676 => (laws_FnLatticeOk.l0 k t664 bt674.2 bt676.2 0))) else ((laws_alive.f k).bind fun t673 => (some t673))))))))))
/-- THE ONE PURE STATEMENT of laws_FnLatticeOk: yours. -/
def laws_FnLatticeOk.Pure : Prop := ∀ (l0 : List Int), l0.length ≤ maxLen → l0.length * 1 ≤ 140737488351232 → (∀ x ∈ l0, (Lit.int .u8 x).wf = true) → ∃ k, laws_FnLatticeOk.f k l0 = some true
end Go.Proofs.Ytilgbnbeonlbnaa.P
