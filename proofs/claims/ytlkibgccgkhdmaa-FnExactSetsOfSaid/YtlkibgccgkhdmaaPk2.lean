/- 14 texts of this seat joined: walks, and the laws of what they compute. -/
import Derived.Below
import Derived.Deep.Draws
import Derived.Deep.AppendLies
import Derived.Maps.AppendAt
import Derived.OwnWalk
import Derived.Laws.BytesArg
import Derived.Laws.MakeOwn
import Derived.Laws.OwnMore
import Derived.Deep.OwnRows
import Derived.Tactics
import Derived.Lib.ConvBytes
import Derived.Laws.Slices
import Derived.WalkKit
import Derived.KernelRfl
import Derived.RowKit3
import Derived.Deep.LoopGhost
import Derived.Deep.QuietTactic
import Derived.BigQuiet
import Derived.WideLaws
import Derived.Deep.DeepCutAuto
import Derived.Deep.CutBlock
import Derived.Deep.RegionHeld3
import Derived.Laws.Rows
import Derived.Lib.AppendStr
import Derived.ArgAppend
import Derived.Laws.IdiomCopy
import Derived.OrdersHeld
import Derived.Laws.BitsLemmas
import Derived.RowKit
import Derived.Test.YtlkibgccgkhdmaaPk1
import Derived.Test.YtlkibgccgkhdmaaProg
-- written by gen.py (a program of this session) out of the kit's print of this seat's translation
namespace Go.Proofs.Ytlkibgccgkhdmaa.P
open Go.RowKit Go.Proofs.YtlkibgccgkhdmaaW.PrintWords Go.Proofs.YtlkibgccgkhdmaaW.PrintLast Go.Proofs.YtlkibgccgkhdmaaW.PrintMore
set_option linter.unusedVariables false
set_option linter.unusedSimpArgs false
def errW : Option Int → Value
  | none => .nilIface
  | some c => .iface 0 (.int .i64 c)
theorem errW_none : errW none = .nilIface := rfl
theorem errW_some (c : Int) : errW (some c) = .iface 0 (.int .i64 c) := rfl

def rd_L1 (xs : List (List Int)) (i : Int) : (List Int) := xs.getD i.toNat ([] : List Int)
theorem at_L1 {w : World} {A : Option Addr} {n : Nat} {xs : List (List Int)} (h : Kd.C (Kd.slice 3 (Kd.int .i64)) w A n xs) (i : Int) (h0 : 0 ≤ i) (h1 : i < n) : ∃ ad A0 c0, A = some ad ∧ w.cell? (ad.add i.toNat) = some (.slice A0 (rd_L1 xs i).length c0) ∧ (rd_L1 xs i).length ≤ c0 ∧ (Kd.int .i64).C w A0 (rd_L1 xs i).length (rd_L1 xs i) := by
  obtain ⟨ad, c, e, _, hK, hc0⟩ := Kd.C_get h ([] : List Int) i h0 h1
  have hc : ∀ j u, c[j]? = some u → w.cell? (ad.add (i.toNat * 1 + j)) = some u := hc0
  obtain ⟨A0, c0, rfl, l0, g0⟩ := hK
  exact ⟨ad, A0, c0, e, by have hq := hc 0 _ rfl; rwa [Nat.mul_one, Nat.add_zero] at hq, l0, g0⟩

def rd_L2 (xs : List (List (List Int))) (i : Int) : (List (List Int)) := xs.getD i.toNat ([] : List (List Int))
theorem at_L2 {w : World} {A : Option Addr} {n : Nat} {xs : List (List (List Int))} (h : Kd.C (Kd.slice 23 (Kd.slice 3 (Kd.int .i64))) w A n xs) (i : Int) (h0 : 0 ≤ i) (h1 : i < n) : ∃ ad A0 c0, A = some ad ∧ w.cell? (ad.add i.toNat) = some (.slice A0 (rd_L2 xs i).length c0) ∧ (rd_L2 xs i).length ≤ c0 ∧ (Kd.slice 3 (Kd.int .i64)).C w A0 (rd_L2 xs i).length (rd_L2 xs i) := by
  obtain ⟨ad, c, e, _, hK, hc0⟩ := Kd.C_get h ([] : List (List Int)) i h0 h1
  have hc : ∀ j u, c[j]? = some u → w.cell? (ad.add (i.toNat * 1 + j)) = some u := hc0
  obtain ⟨A0, c0, rfl, l0, g0⟩ := hK
  exact ⟨ad, A0, c0, e, by have hq := hc 0 _ rfl; rwa [Nat.mul_one, Nat.add_zero] at hq, l0, g0⟩

/-! #### struct type 29 -/
structure S29 where
  f0 : (List (List Int))
  f1 : (List Int)
def z29 : S29 := ⟨([] : List (List Int)), ([] : List Int)⟩
def k29 : Kd S29 := Kd.iso (Kd.pair (Kd.slice 23 (Kd.slice 3 (Kd.int .i64))) (Kd.slice 3 (Kd.int .i64))) (fun x : S29 => (x.f0, x.f1))
theorem k29_open {w : World} {x : S29} {cs : List Value} (h : k29.K w x cs) : ∃ A0 c0 A1 c1, cs = [.slice A0 x.f0.length c0, .slice A1 x.f1.length c1] ∧ x.f0.length ≤ c0 ∧ (Kd.slice 3 (Kd.int .i64)).C w A0 x.f0.length x.f0 ∧ x.f1.length ≤ c1 ∧ (Kd.int .i64).C w A1 x.f1.length x.f1 := by
  obtain ⟨_, _, rfl, ⟨A0, c0, rfl, l0, g0⟩, ⟨A1, c1, rfl, l1, g1⟩⟩ := h
  exact ⟨A0, c0, A1, c1, rfl, l0, g0, l1, g1⟩
theorem k29_openM {w : World} {base : Nat} {ok : Nat → Prop} {x : S29} {cs : List Value} (h : k29.M w base ok x cs) : ∃ v0 v1, cs = [v0, v1] ∧ (Kd.slice 3 (Kd.int .i64)).R 23 w base ok v0 x.f0 ∧ (Kd.int .i64).R 3 w base ok v1 x.f1 := by
  obtain ⟨_, _, rfl, ⟨v0, rfl, g0⟩, ⟨v1, rfl, g1⟩⟩ := h
  exact ⟨v0, v1, rfl, g0, g1⟩
theorem k29_mk (w : World) (x : S29) {A0 : Option Addr} {c0 : Nat} (l0 : x.f0.length ≤ c0) (g0 : (Kd.slice 3 (Kd.int .i64)).C w A0 x.f0.length x.f0) {A1 : Option Addr} {c1 : Nat} (l1 : x.f1.length ≤ c1) (g1 : (Kd.int .i64).C w A1 x.f1.length x.f1) : k29.K w x [.slice A0 x.f0.length c0, .slice A1 x.f1.length c1] := ⟨[.slice A0 x.f0.length c0], [.slice A1 x.f1.length c1], rfl, ⟨A0, c0, rfl, l0, g0⟩, ⟨A1, c1, rfl, l1, g1⟩⟩
theorem k29_mkM (w : World) (base : Nat) (ok : Nat → Prop) (x : S29) {v0 : Value} (g0 : (Kd.slice 3 (Kd.int .i64)).R 23 w base ok v0 x.f0) {v1 : Value} (g1 : (Kd.int .i64).R 3 w base ok v1 x.f1) : k29.M w base ok x [v0, v1] := ⟨[v0], [v1], rfl, ⟨v0, rfl, g0⟩, ⟨v1, rfl, g1⟩⟩
theorem k29_openF {W : World} {ok : Nat → Prop} {x : S29} {cs : List Value} (h : Kd.FK k29 W ok x cs) : ∃ A0 c0 A1 c1, cs = [.slice A0 x.f0.length c0, .slice A1 x.f1.length c1] ∧ x.f0.length ≤ c0 ∧ Kd.F (Kd.slice 3 (Kd.int .i64)) W ok A0 x.f0.length x.f0 ∧ x.f1.length ≤ c1 ∧ Kd.F (Kd.int .i64) W ok A1 x.f1.length x.f1 := by
  obtain ⟨A0, c0, A1, c1, rfl, l0, _, l1, _⟩ := k29_open (Kd.FK_now h)
  exact ⟨A0, c0, A1, c1, rfl, l0, (fun W' hW => by obtain ⟨A0_, c0_, A1_, c1_, he, l0_, g0_, l1_, g1_⟩ := k29_open (h W' hW); injection (Option.some.inj (show some (Value.slice A0 x.f0.length c0) = some (Value.slice A0_ x.f0.length c0_) from congrArg (fun l => l[0]?) he)) with ha_ _ _; rw [ha_]; exact g0_), l1, (fun W' hW => by obtain ⟨A0_, c0_, A1_, c1_, he, l0_, g0_, l1_, g1_⟩ := k29_open (h W' hW); injection (Option.some.inj (show some (Value.slice A1 x.f1.length c1) = some (Value.slice A1_ x.f1.length c1_) from congrArg (fun l => l[1]?) he)) with ha_ _ _; rw [ha_]; exact g1_)⟩
theorem k29_mkF (W : World) (ok : Nat → Prop) (x : S29) {A0 : Option Addr} {c0 : Nat} (l0 : x.f0.length ≤ c0) (g0 : Kd.F (Kd.slice 3 (Kd.int .i64)) W ok A0 x.f0.length x.f0) {A1 : Option Addr} {c1 : Nat} (l1 : x.f1.length ≤ c1) (g1 : Kd.F (Kd.int .i64) W ok A1 x.f1.length x.f1) : Kd.FK k29 W ok x [.slice A0 x.f0.length c0, .slice A1 x.f1.length c1] := fun W2 hW => k29_mk W2 x l0 (g0 W2 hW) l1 (g1 W2 hW)
def rd_T29 (xs : List S29) (i : Int) : S29 := xs.getD i.toNat z29
theorem at_T29 {w : World} {A : Option Addr} {n : Nat} {xs : List S29} (h : Kd.C k29 w A n xs) (i : Int) (h0 : 0 ≤ i) (h1 : i < n) : ∃ ad A0 c0 A1 c1, A = some ad ∧ w.cell? (ad.add (i.toNat * 2)) = some (.slice A0 (rd_T29 xs i).f0.length c0) ∧ w.cell? ⟨(ad.add (i.toNat * 2)).block, (ad.add (i.toNat * 2)).off + 1, none⟩ = some (.slice A1 (rd_T29 xs i).f1.length c1) ∧ (rd_T29 xs i).f0.length ≤ c0 ∧ (Kd.slice 3 (Kd.int .i64)).C w A0 (rd_T29 xs i).f0.length (rd_T29 xs i).f0 ∧ (rd_T29 xs i).f1.length ≤ c1 ∧ (Kd.int .i64).C w A1 (rd_T29 xs i).f1.length (rd_T29 xs i).f1 := by
  obtain ⟨ad, c, e, _, hK, hc0⟩ := Kd.C_get h z29 i h0 h1
  have hc : ∀ j u, c[j]? = some u → w.cell? (ad.add (i.toNat * 2 + j)) = some u := hc0
  obtain ⟨A0, c0, A1, c1, rfl, l0, g0, l1, g1⟩ := k29_open hK
  exact ⟨ad, A0, c0, A1, c1, e, hc 0 _ rfl, by rw [← add_field _ _ 1 (by omega)]; exact hc 1 _ rfl, l0, g0, l1, g1⟩

end Go.Proofs.Ytlkibgccgkhdmaa.P

namespace Go.Proofs.Cl
set_option linter.unusedVariables false

def allG (p : Nat → Bool) : Nat → Nat → Bool
  | 0, _ => true
  | d + 1, i => p i && allG p d (i + 1)
def allF (n : Nat) (p : Nat → Bool) (i : Nat) : Bool := allG p (n - i) i
def firstG (p : Nat → Bool) : Nat → Nat → Int
  | 0, _ => -1
  | d + 1, i => if p i = true then (i : Int) else firstG p d (i + 1)
def firstF (n : Nat) (p : Nat → Bool) (i : Nat) : Int := firstG p (n - i) i
theorem down (n : Nat) (P : Nat → Prop) (hend : P n) (hstep : ∀ i, i < n → P (i + 1) → P i) (i : Nat) (hi : i ≤ n) : P i := by
  obtain ⟨d, hd⟩ : ∃ d, n - i = d := ⟨_, rfl⟩
  induction d generalizing i with
  | zero => obtain rfl : i = n := by omega
            exact hend
  | succ d ih => exact hstep i (by omega) (ih (i + 1) (by omega) (by omega))
def rdN (u : List (List Int)) (a b : Nat) : Int := (u.getD a []).getD b 0
def Ord (u : List (List Int)) : Prop :=
  1 ≤ u.length ∧ u.length ≤ 12 ∧ (∀ a, a < u.length → (u.getD a []).length = u.length) ∧
  (∀ a, a < u.length → ∀ b, b < u.length → rdN u a b = 0 ∨ rdN u a b = 1) ∧
  (∀ a, a < u.length → rdN u a a = 1) ∧
  (∀ a, a < u.length → ∀ b, b < u.length → rdN u a b = 1 → rdN u b a = 1 → a = b) ∧
  (∀ a, a < u.length → ∀ b, b < u.length → ∀ c, c < u.length → rdN u a b = 1 → rdN u b c = 1 → rdN u a c = 1)
instance (u : List (List Int)) : Decidable (Ord u) := by
  have d1 : Decidable (∀ a, a < u.length → (u.getD a []).length = u.length) := inferInstance
  have d2 : Decidable (∀ a, a < u.length → ∀ b, b < u.length → rdN u a b = 0 ∨ rdN u a b = 1) := inferInstance
  have d3 : Decidable (∀ a, a < u.length → rdN u a a = 1) := inferInstance
  have d4 : Decidable (∀ a, a < u.length → ∀ b, b < u.length → rdN u a b = 1 → rdN u b a = 1 → a = b) := inferInstance
  have d5 : Decidable (∀ a, a < u.length → ∀ b, b < u.length → ∀ c, c < u.length → rdN u a b = 1 → rdN u b c = 1 → rdN u a c = 1) := inferInstance
  unfold Ord
  exact instDecidableAnd

namespace Ord
variable {u : List (List Int)} (h : Ord u)
theorem pos (h : Ord u) : 1 ≤ u.length := h.1
theorem row (h : Ord u) {a : Nat} (ha : a < u.length) : (u.getD a []).length = u.length := h.2.2.1 a ha
theorem refl (h : Ord u) {a : Nat} (ha : a < u.length) : rdN u a a = 1 := h.2.2.2.2.1 a ha
theorem trans (h : Ord u) {a b c : Nat} (ha : a < u.length) (hb : b < u.length) (hc : c < u.length) (k : rdN u a b = 1) (l : rdN u b c = 1) : rdN u a c = 1 := h.2.2.2.2.2.2 a ha b hb c hc k l
end Ord

def IsMeet (u : List (List Int)) (a b c : Nat) : Prop :=
  c < u.length ∧ rdN u c a = 1 ∧ rdN u c b = 1 ∧ ∀ d, d < u.length → rdN u d a = 1 → rdN u d b = 1 → rdN u d c = 1
def IsJoin (u : List (List Int)) (a b c : Nat) : Prop :=
  c < u.length ∧ rdN u a c = 1 ∧ rdN u b c = 1 ∧ ∀ d, d < u.length → rdN u a d = 1 → rdN u b d = 1 → rdN u c d = 1
instance (u : List (List Int)) (a b c : Nat) : Decidable (IsMeet u a b c) := by unfold IsMeet; infer_instance
instance (u : List (List Int)) (a b c : Nat) : Decidable (IsJoin u a b c) := by unfold IsJoin; infer_instance
def meetI (u : List (List Int)) (a b : Nat) : Int := firstF u.length (fun c => decide (IsMeet u a b c)) 0
def joinI (u : List (List Int)) (a b : Nat) : Int := firstF u.length (fun c => decide (IsJoin u a b c)) 0
def Lat (u : List (List Int)) : Prop := Ord u ∧ ∀ a, a < u.length → ∀ b, b < u.length → 0 ≤ meetI u a b ∧ 0 ≤ joinI u a b
instance (u : List (List Int)) : Decidable (Lat u) := by unfold Lat; infer_instance
def IsLeast (u : List (List Int)) (a : Nat) : Prop := ∀ b, b < u.length → rdN u a b = 1
instance (u : List (List Int)) (a : Nat) : Decidable (IsLeast u a) := by unfold IsLeast; infer_instance
def leastI (u : List (List Int)) : Int := firstF u.length (fun a => decide (IsLeast u a)) 0
namespace Lat
variable {u : List (List Int)}
end Lat
end Go.Proofs.Cl


namespace Go.Proofs.Ytlkibgccgkhdmaa.P
open Go.RowKit Go.Proofs.YtlkibgccgkhdmaaW.PrintWords Go.Proofs.YtlkibgccgkhdmaaW.PrintLast Go.Proofs.YtlkibgccgkhdmaaW.PrintMore Go.Proofs.Cl
set_option linter.unusedVariables false
def OppAt (u : List (List Int)) (nt : List Int) (c : Nat) : Prop := (0 ≤ rd nt c ∧ rd nt c < u.length) ∧ rd nt (rd nt c) = c ∧ meetI u c (rd nt c).toNat = leastI u
def OppTo (u : List (List Int)) (nt : List Int) (c d : Nat) : Prop := rdN u c d = 1 → rdN u (rd nt d).toNat (rd nt c).toNat = 1
def OL (u : List (List Int)) (nt : List Int) : Prop := Lat u ∧ nt.length = u.length ∧ (∀ c, c < u.length → OppAt u nt c) ∧ (∀ c, c < u.length → ∀ d, d < u.length → OppTo u nt c d)
instance (u : List (List Int)) (nt : List Int) (c : Nat) : Decidable (OppAt u nt c) := by unfold OppAt; infer_instance
instance (u : List (List Int)) (nt : List Int) (c d : Nat) : Decidable (OppTo u nt c d) := by unfold OppTo; infer_instance
instance (u : List (List Int)) (nt : List Int) : Decidable (OL u nt) := by unfold OL; infer_instance
def okAll (n : Nat) (xs : List Int) : Bool := xs.all fun a => decide (0 ≤ a ∧ a < n)
abbrev mt (u : List (List Int)) (a b : Int) : Int := meetI u a.toNat b.toNat
abbrev jn (u : List (List Int)) (a b : Int) : Int := joinI u a.toNat b.toNat
def withB (u : List (List Int)) (nt : List Int) (a b : Int) : Prop := jn u (mt u a b) (mt u a (rd nt b)) = a
instance (u : List (List Int)) (nt : List Int) (a b : Int) : Decidable (withB u nt a b) := by unfold withB; infer_instance
end Go.Proofs.Ytlkibgccgkhdmaa.P


namespace Go.Proofs.Ytlkibgccgkhdmaa.P
open Go.RowKit Go.Proofs.YtlkibgccgkhdmaaW.PrintWords Go.Proofs.YtlkibgccgkhdmaaW.PrintLast Go.Proofs.YtlkibgccgkhdmaaW.PrintMore Go.Proofs.Cl
set_option linter.unusedVariables false
def Cls (u : List (List Int)) (nt : List Int) (S : Nat) : Prop :=
  ∀ a, a < u.length → S.testBit a = true → S.testBit (rd nt a).toNat = true ∧ ∀ b, b < u.length → S.testBit b = true → S.testBit (mt u a b).toNat = true ∧ S.testBit (jn u a b).toNat = true
instance (u : List (List Int)) (nt : List Int) (S : Nat) : Decidable (Cls u nt S) := by unfold Cls; infer_instance
def SubS (n S T : Nat) : Prop := ∀ a, a < n → S.testBit a = true → T.testBit a = true
instance (n S T : Nat) : Decidable (SubS n S T) := by unfold SubS; infer_instance
def AgreeS (u : List (List Int)) (nt : List Int) (S : Nat) : Prop := ∀ a, a < u.length → S.testBit a = true → ∀ b, b < u.length → S.testBit b = true → withB u nt a b ∧ withB u nt b a
instance (u : List (List Int)) (nt : List Int) (a b : Int) : Decidable (withB u nt a b) := by unfold withB; infer_instance
instance (u : List (List Int)) (nt : List Int) (S : Nat) : Decidable (AgreeS u nt S) := by unfold AgreeS; infer_instance
def splitB (u : List (List Int)) (a b c : Int) : Prop := mt u a (jn u b c) = jn u (mt u a b) (mt u a c)
instance (u : List (List Int)) (a b c : Int) : Decidable (splitB u a b c) := by unfold splitB; infer_instance
def madeU (n : Nat) (U : Nat → Nat → Bool) : List (List Int) := (List.range n).map fun a => (List.range n).map fun b => if U a b = true then 1 else 0
def madeN (n : Nat) (N : Nat → Int) : List Int := (List.range n).map N
def setsU (t : Nat) : List (List Int) := madeU (2 ^ t) (fun a b => decide (a &&& b = a))
def setsN (t : Nat) : List Int := madeN (2 ^ t) (fun a => ((2 ^ t - 1 - a : Nat) : Int))
def setsF (t : Int) : List (List Int) × List Int × Bool := if 0 ≤ t ∧ t ≤ 3 then (setsU t.toNat, setsN t.toNat, true) else ([], [], false)
def ringB (a b : Nat) : Bool := decide (a = b ∨ a = 0 ∨ b = 5 ∨ (a = 1 ∧ b = 2) ∨ (a = 3 ∧ b = 4))
def ringF (n : Int) : List (List Int) × List Int × Bool := if n = 6 then (madeU 6 ringB, madeN 6 (fun a => 5 - (a : Int)), true) else ([], [], false)
def renB (n : Nat) (o : List Int) : Prop := o.length = n ∧ okAll n o = true ∧ o.Nodup
instance (n : Nat) (o : List Int) : Decidable (renB n o) := by unfold renB; infer_instance
end Go.Proofs.Ytlkibgccgkhdmaa.P


-- written by gen.py (a program of this session) out of the kit's print of this seat's translation
namespace Go.Proofs.Ytlkibgccgkhdmaa.P
open Go.RowKit Go.Proofs.YtlkibgccgkhdmaaW.PrintWords Go.Proofs.YtlkibgccgkhdmaaW.PrintLast Go.Proofs.YtlkibgccgkhdmaaW.PrintMore
set_option linter.unusedVariables false
set_option linter.unusedSimpArgs false
open Go.Proofs.Cl
/-! ### laws_szIntS: function 49 -/
def laws_szIntS.f (l0 : List Int) (a1 : Int) : Option (Int) := if (wrap64 (a1 - (l0.length : Int))) < 0 then (some (-1)) else (some (wrap64 (a1 - (l0.length : Int))))
/-! ### laws_szIntSS: function 48 -/
def laws_szIntSS.l0 : Nat → List (List Int) → Int → Int → Option (Int)
  | 0, _, _, _ => none
  | k + 1, x0, x1, x5 => if x5 < (x0.length : Int) then (if 0 ≤ x5 then ((laws_szIntS.f (rd_L1 x0 x5) x1).bind fun t102 => (if t102 < 0 then (some (-1)) else (laws_szIntSS.l0 k x0 t102 (wrap64 (x5 + 1))))) else (none)) else (some x1)
def laws_szIntSS.f (k : Nat) (l0 : List (List Int)) (a1 : Int) : Option (Int) := if (wrap64 (a1 - (l0.length : Int))) < 0 then (some (-1)) else (laws_szIntSS.l0 k l0 (wrap64 (a1 - (l0.length : Int))) 0)
/-! ### laws_szLogic: function 15 -/
def laws_szLogic.f (k : Nat) (l0_0 : List (List Int)) (l0_1 : List Int) (a1 : Int) : Option (Int) := (laws_szIntSS.f k l0_0 a1).bind fun t104 => (if t104 < 0 then (some (-1)) else ((laws_szIntS.f l0_1 t104).bind fun t105 => (if t105 < 0 then (some (-1)) else (some t105))))
/-! ### spec_l1Meet: function 51 -/
mutual
def spec_l1Meet.l0 : Nat → List (List Int) → Int → Int → Int → Int → Option (Int)
  | 0, _, _, _, _, _ => none
  | k + 1, x0, x1, x2, x7, x8 => if x8 < (x0.length : Int) then (if 0 ≤ x8 then (if 0 ≤ x1 then (if x1 < ((rd_L1 x0 x8).length : Int) then (if (rd (rd_L1 x0 x8) x1) = 1 then (if 0 ≤ x2 then (if x2 < ((rd_L1 x0 x8).length : Int) then (if (rd (rd_L1 x0 x8) x2) = 1 then (if x7 < 0 then (spec_l1Meet.l0 k x0 x1 x2 x8 (wrap64 (x8 + 1))) else (if 0 ≤ x7 then (if x7 < (x0.length : Int) then (if x8 < ((rd_L1 x0 x7).length : Int) then (if (rd (rd_L1 x0 x7) x8) = 1 then (spec_l1Meet.l0 k x0 x1 x2 x8 (wrap64 (x8 + 1))) else (spec_l1Meet.l0 k x0 x1 x2 x7 (wrap64 (x8 + 1)))) else (none)) else (none)) else (none))) else (spec_l1Meet.l0 k x0 x1 x2 x7 (wrap64 (x8 + 1)))) else (none)) else (none)) else (spec_l1Meet.l0 k x0 x1 x2 x7 (wrap64 (x8 + 1)))) else (none)) else (none)) else (none)) else (spec_l1Meet.l1 k x0 x1 x2 x7 0)
def spec_l1Meet.l1 : Nat → List (List Int) → Int → Int → Int → Int → Option (Int)
  | 0, _, _, _, _, _ => none
  | k + 1, x0, x1, x2, x7, x9 => if x9 < (x0.length : Int) then (if 0 ≤ x9 then (if 0 ≤ x1 then (if x1 < ((rd_L1 x0 x9).length : Int) then (if (rd (rd_L1 x0 x9) x1) = 1 then (if 0 ≤ x2 then (if x2 < ((rd_L1 x0 x9).length : Int) then (if (rd (rd_L1 x0 x9) x2) = 1 then (if 0 ≤ x7 then (if x7 < ((rd_L1 x0 x9).length : Int) then (if (rd (rd_L1 x0 x9) x7) = 0 then (some (-1)) else (spec_l1Meet.l1 k x0 x1 x2 x7 (wrap64 (x9 + 1)))) else (none)) else (none)) else (spec_l1Meet.l1 k x0 x1 x2 x7 (wrap64 (x9 + 1)))) else (none)) else (none)) else (spec_l1Meet.l1 k x0 x1 x2 x7 (wrap64 (x9 + 1)))) else (none)) else (none)) else (none)) else (some x7)
end
def spec_l1Meet.f (k : Nat) (l0 : List (List Int)) (a1 : Int) (a2 : Int) : Option (Int) := spec_l1Meet.l0 k l0 a1 a2 (-1) 0
/-! ### spec_l1In: function 66 -/
def spec_l1In.f (a0 : Int) (a1 : Int) (a2 : Int) : Option (Bool) := if a0 ≥ a1 then (some (decide (a0 ≤ a2))) else (some false)
/-! ### spec_l1Join: function 97 -/
mutual
def spec_l1Join.l0 : Nat → List (List Int) → Int → Int → Int → Int → Option (Int)
  | 0, _, _, _, _, _ => none
  | k + 1, x0, x1, x2, x7, x8 => if x8 < (x0.length : Int) then (if 0 ≤ x1 then (if x1 < (x0.length : Int) then (if 0 ≤ x8 then (if x8 < ((rd_L1 x0 x1).length : Int) then (if (rd (rd_L1 x0 x1) x8) = 1 then (if 0 ≤ x2 then (if x2 < (x0.length : Int) then (if x8 < ((rd_L1 x0 x2).length : Int) then (if (rd (rd_L1 x0 x2) x8) = 1 then (if x7 < 0 then (spec_l1Join.l0 k x0 x1 x2 x8 (wrap64 (x8 + 1))) else (if 0 ≤ x7 then (if x7 < ((rd_L1 x0 x8).length : Int) then (if (rd (rd_L1 x0 x8) x7) = 1 then (spec_l1Join.l0 k x0 x1 x2 x8 (wrap64 (x8 + 1))) else (spec_l1Join.l0 k x0 x1 x2 x7 (wrap64 (x8 + 1)))) else (none)) else (none))) else (spec_l1Join.l0 k x0 x1 x2 x7 (wrap64 (x8 + 1)))) else (none)) else (none)) else (none)) else (spec_l1Join.l0 k x0 x1 x2 x7 (wrap64 (x8 + 1)))) else (none)) else (none)) else (none)) else (none)) else (spec_l1Join.l1 k x0 x1 x2 x7 0)
def spec_l1Join.l1 : Nat → List (List Int) → Int → Int → Int → Int → Option (Int)
  | 0, _, _, _, _, _ => none
  | k + 1, x0, x1, x2, x7, x9 => if x9 < (x0.length : Int) then (if 0 ≤ x1 then (if x1 < (x0.length : Int) then (if 0 ≤ x9 then (if x9 < ((rd_L1 x0 x1).length : Int) then (if (rd (rd_L1 x0 x1) x9) = 1 then (if 0 ≤ x2 then (if x2 < (x0.length : Int) then (if x9 < ((rd_L1 x0 x2).length : Int) then (if (rd (rd_L1 x0 x2) x9) = 1 then (if 0 ≤ x7 then (if x7 < (x0.length : Int) then (if x9 < ((rd_L1 x0 x7).length : Int) then (if (rd (rd_L1 x0 x7) x9) = 0 then (some (-1)) else (spec_l1Join.l1 k x0 x1 x2 x7 (wrap64 (x9 + 1)))) else (none)) else (none)) else (none)) else (spec_l1Join.l1 k x0 x1 x2 x7 (wrap64 (x9 + 1)))) else (none)) else (none)) else (none)) else (spec_l1Join.l1 k x0 x1 x2 x7 (wrap64 (x9 + 1)))) else (none)) else (none)) else (none)) else (none)) else (some x7)
end
def spec_l1Join.f (k : Nat) (l0 : List (List Int)) (a1 : Int) (a2 : Int) : Option (Int) := spec_l1Join.l0 k l0 a1 a2 (-1) 0
/-! ### spec_OrderOk: function 103 -/
mutual
def spec_OrderOk.l0 : Nat → List (List Int) → Int → Int → Option (Bool)
  | 0, _, _, _ => none
  | k + 1, x0, x3, x4 => if x4 < x3 then (if 0 ≤ x4 then (if x4 < (x0.length : Int) then (if ((rd_L1 x0 x4).length : Int) = x3 then (spec_OrderOk.l1 k x0 x3 x4 0) else (some false)) else (none)) else (none)) else (spec_OrderOk.l2 k x0 x3 0)
def spec_OrderOk.l1 : Nat → List (List Int) → Int → Int → Int → Option (Bool)
  | 0, _, _, _, _ => none
  | k + 1, x0, x3, x4, x5 => if x5 < x3 then (if 0 ≤ x4 then (if x4 < (x0.length : Int) then (if 0 ≤ x5 then (if x5 < ((rd_L1 x0 x4).length : Int) then ((spec_l1In.f (rd (rd_L1 x0 x4) x5) 0 1).bind fun t134 => (if t134 = true then (spec_OrderOk.l1 k x0 x3 x4 (wrap64 (x5 + 1))) else (some false))) else (none)) else (none)) else (none)) else (none)) else (spec_OrderOk.l0 k x0 x3 (wrap64 (x4 + 1)))
def spec_OrderOk.l2 : Nat → List (List Int) → Int → Int → Option (Bool)
  | 0, _, _, _ => none
  | k + 1, x0, x3, x6 => if x6 < x3 then (spec_OrderOk.l3 k x0 x3 x6 0) else (some true)
def spec_OrderOk.l3 : Nat → List (List Int) → Int → Int → Int → Option (Bool)
  | 0, _, _, _, _ => none
  | k + 1, x0, x3, x6, x7 => if x7 < x3 then (if x6 = x7 then (if 0 ≤ x6 then (if x6 < (x0.length : Int) then (if 0 ≤ x7 then (if x7 < ((rd_L1 x0 x6).length : Int) then (if (rd (rd_L1 x0 x6) x7) = 0 then (spec_OrderOk.j4 k x0 x3 x6 x7 true) else (spec_OrderOk.j4 k x0 x3 x6 x7 false)) else (none)) else (none)) else (none)) else (none)) else (if 0 ≤ x6 then (if x6 < (x0.length : Int) then (if 0 ≤ x7 then (if x7 < ((rd_L1 x0 x6).length : Int) then (if (rd (rd_L1 x0 x6) x7) = 1 then (if x7 < (x0.length : Int) then (if x6 < ((rd_L1 x0 x7).length : Int) then (spec_OrderOk.j4 k x0 x3 x6 x7 ((rd (rd_L1 x0 x7) x6) == 1)) else (none)) else (none)) else (spec_OrderOk.j4 k x0 x3 x6 x7 false)) else (none)) else (none)) else (none)) else (none))) else (spec_OrderOk.l2 k x0 x3 (wrap64 (x6 + 1)))
def spec_OrderOk.j4 : Nat → List (List Int) → Int → Int → Int → Bool → Option (Bool)
  | 0, _, _, _, _, _ => none
  | k + 1, x0, x3, x6, x7, x87 => if x87 = true then (some false) else (spec_OrderOk.l4 k x0 x3 x6 x7 0)
def spec_OrderOk.l4 : Nat → List (List Int) → Int → Int → Int → Int → Option (Bool)
  | 0, _, _, _, _, _ => none
  | k + 1, x0, x3, x6, x7, x8 => if x8 < x3 then (if 0 ≤ x6 then (if x6 < (x0.length : Int) then (if 0 ≤ x7 then (if x7 < ((rd_L1 x0 x6).length : Int) then (if (rd (rd_L1 x0 x6) x7) = 1 then (if x7 < (x0.length : Int) then (if 0 ≤ x8 then (if x8 < ((rd_L1 x0 x7).length : Int) then (if (rd (rd_L1 x0 x7) x8) = 1 then (if x8 < ((rd_L1 x0 x6).length : Int) then (if (rd (rd_L1 x0 x6) x8) = 0 then (some false) else (spec_OrderOk.l4 k x0 x3 x6 x7 (wrap64 (x8 + 1)))) else (none)) else (spec_OrderOk.l4 k x0 x3 x6 x7 (wrap64 (x8 + 1)))) else (none)) else (none)) else (none)) else (spec_OrderOk.l4 k x0 x3 x6 x7 (wrap64 (x8 + 1)))) else (none)) else (none)) else (none)) else (none)) else (spec_OrderOk.l3 k x0 x3 x6 (wrap64 (x7 + 1)))
end
def spec_OrderOk.f (k : Nat) (l0 : List (List Int)) : Option (Bool) := (spec_l1In.f (l0.length : Int) 1 12).bind fun t130 => (if t130 = true then (spec_OrderOk.l0 k l0 (l0.length : Int) 0) else (some false))
/-! ### spec_LatticeOk: function 90 -/
mutual
def spec_LatticeOk.l0 : Nat → List (List Int) → Int → Option (Bool)
  | 0, _, _ => none
  | k + 1, x0, x3 => if x3 < (x0.length : Int) then ((spec_OrderOk.f k x0).bind fun t147 => (spec_LatticeOk.j1 k x0 x3 t147)) else (spec_LatticeOk.j1 k x0 x3 false)
def spec_LatticeOk.j1 : Nat → List (List Int) → Int → Bool → Option (Bool)
  | 0, _, _, _ => none
  | k + 1, x0, x3, x12 => if x12 = true then (spec_LatticeOk.l1 k x0 x3 0) else ((spec_OrderOk.f k x0).bind fun t148 => (some t148))
def spec_LatticeOk.l1 : Nat → List (List Int) → Int → Int → Option (Bool)
  | 0, _, _, _ => none
  | k + 1, x0, x3, x4 => if x4 < x3 then ((spec_l1Meet.f k x0 x3 x4).bind fun t149 => (if t149 < 0 then (some false) else ((spec_l1Join.f k x0 x3 x4).bind fun t150 => (if t150 < 0 then (some false) else (spec_LatticeOk.l1 k x0 x3 (wrap64 (x4 + 1))))))) else (spec_LatticeOk.l0 k x0 (wrap64 (x3 + 1)))
end
def spec_LatticeOk.f (k : Nat) (l0 : List (List Int)) : Option (Bool) := spec_LatticeOk.l0 k l0 0
/-! ### spec_LeastOf: function 91 -/
mutual
def spec_LeastOf.l0 : Nat → List (List Int) → Int → Option (Int × Bool)
  | 0, _, _ => none
  | k + 1, x0, x4 => if x4 < (x0.length : Int) then ((spec_OrderOk.f k x0).bind fun t151 => (spec_LeastOf.j1 k x0 x4 t151)) else (spec_LeastOf.j1 k x0 x4 false)
def spec_LeastOf.j1 : Nat → List (List Int) → Int → Bool → Option (Int × Bool)
  | 0, _, _, _ => none
  | k + 1, x0, x4, x14 => if x14 = true then (spec_LeastOf.l1 k x0 x4 true 0) else (some ((-1), false))
def spec_LeastOf.l1 : Nat → List (List Int) → Int → Bool → Int → Option (Int × Bool)
  | 0, _, _, _, _ => none
  | k + 1, x0, x4, x5, x6 => if x6 < (x0.length : Int) then (if x5 = true then (if 0 ≤ x4 then (if x4 < (x0.length : Int) then (if 0 ≤ x6 then (if x6 < ((rd_L1 x0 x4).length : Int) then (spec_LeastOf.l1 k x0 x4 ((rd (rd_L1 x0 x4) x6) == 1) (wrap64 (x6 + 1))) else (none)) else (none)) else (none)) else (none)) else (spec_LeastOf.l1 k x0 x4 false (wrap64 (x6 + 1)))) else (if x5 = true then (some (x4, true)) else (spec_LeastOf.l0 k x0 (wrap64 (x4 + 1))))
end
def spec_LeastOf.f (k : Nat) (l0 : List (List Int)) : Option (Int × Bool) := spec_LeastOf.l0 k l0 0
/-! ### spec_LogicOk: function 50 -/
mutual
def spec_LogicOk.j0 : Nat → Int → Bool → List (List Int) → List Int → Option (Bool)
  | 0, _, _, _, _ => none
  | k + 1, x3, x22, x155000, x155001 => if x22 = true then (some false) else (spec_LogicOk.l0 k x3 0 x155000 x155001)
def spec_LogicOk.l0 : Nat → Int → Int → List (List Int) → List Int → Option (Bool)
  | 0, _, _, _, _ => none
  | k + 1, x3, x4, x155000, x155001 => if x4 < x3 then (if 0 ≤ x4 then (if x4 < (x155001.length : Int) then ((spec_l1In.f (rd x155001 x4) 0 (wrap64 (x3 - 1))).bind fun t157 => (if t157 = true then (spec_LogicOk.l0 k x3 (wrap64 (x4 + 1)) x155000 x155001) else (some false))) else (none)) else (none)) else ((spec_LeastOf.f k x155000).bind fun bt158 => (spec_LogicOk.l1 k x3 bt158.1 0 x155000 x155001))
def spec_LogicOk.l1 : Nat → Int → Int → Int → List (List Int) → List Int → Option (Bool)
  | 0, _, _, _, _, _ => none
  | k + 1, x3, x5, x7, x155000, x155001 => if x7 < x3 then (if 0 ≤ x7 then (if x7 < (x155001.length : Int) then (if 0 ≤ (rd x155001 x7) then (if (rd x155001 x7) < (x155001.length : Int) then (if (rd x155001 (rd x155001 x7)) = x7 then ((spec_l1Meet.f k x155000 x7 (rd x155001 x7)).bind fun t163 => (spec_LogicOk.j3 k x3 x5 x7 (t163 != x5) x155000 x155001)) else (spec_LogicOk.j3 k x3 x5 x7 true x155000 x155001)) else (none)) else (none)) else (none)) else (none)) else (some true)
def spec_LogicOk.j3 : Nat → Int → Int → Int → Bool → List (List Int) → List Int → Option (Bool)
  | 0, _, _, _, _, _, _ => none
  | k + 1, x3, x5, x7, x71, x155000, x155001 => if x71 = true then (some false) else (spec_LogicOk.l2 k x3 x5 x7 0 x155000 x155001)
def spec_LogicOk.l2 : Nat → Int → Int → Int → Int → List (List Int) → List Int → Option (Bool)
  | 0, _, _, _, _, _, _ => none
  | k + 1, x3, x5, x7, x8, x155000, x155001 => if x8 < x3 then (if 0 ≤ x7 then (if x7 < (x155000.length : Int) then (if 0 ≤ x8 then (if x8 < ((rd_L1 x155000 x7).length : Int) then (if (rd (rd_L1 x155000 x7) x8) = 1 then (if x8 < (x155001.length : Int) then (if 0 ≤ (rd x155001 x8) then (if (rd x155001 x8) < (x155000.length : Int) then (if x7 < (x155001.length : Int) then (if 0 ≤ (rd x155001 x7) then (if (rd x155001 x7) < ((rd_L1 x155000 (rd x155001 x8)).length : Int) then (if (rd (rd_L1 x155000 (rd x155001 x8)) (rd x155001 x7)) = 0 then (some false) else (spec_LogicOk.l2 k x3 x5 x7 (wrap64 (x8 + 1)) x155000 x155001)) else (none)) else (none)) else (none)) else (none)) else (none)) else (none)) else (spec_LogicOk.l2 k x3 x5 x7 (wrap64 (x8 + 1)) x155000 x155001)) else (none)) else (none)) else (none)) else (none)) else (spec_LogicOk.l1 k x3 x5 (wrap64 (x7 + 1)) x155000 x155001)
end
def spec_LogicOk.f (k : Nat) (l0_0 : List (List Int)) (l0_1 : List Int) : Option (Bool) := (spec_LatticeOk.f k l0_0).bind fun t155 => (if t155 = true then (spec_LogicOk.j0 k (l0_0.length : Int) ((l0_1.length : Int) != (l0_0.length : Int)) l0_0 l0_1) else (spec_LogicOk.j0 k (l0_0.length : Int) true l0_0 l0_1))
/-! ### laws_toIntS: function 40 -/
def laws_toIntS.l0 : Nat → List Int → List Int → Int → Option (List Int)
  | 0, _, _, _ => none
  | k + 1, x0, x3, x4 => if x4 < (x0.length : Int) then (if 0 ≤ x4 then (if x4 < (x3.length : Int) then (laws_toIntS.l0 k x0 (x3.set (x4 : Int).toNat (rd x0 x4)) (wrap64 (x4 + 1))) else (none)) else (none)) else (some x3)
def laws_toIntS.f (k : Nat) (l0 : List Int) : Option (List Int) := if 0 ≤ (l0.length : Int) then (if ((l0.length : Int) : Int).toNat ≤ 35184372088832 then (laws_toIntS.l0 k l0 (List.replicate ((l0.length : Int) : Int).toNat 0) 0) else (none)) else (none)
/-! ### laws_toIntSS: function 52 -/
def laws_toIntSS.l0 : Nat → List (List Int) → List (List Int) → Int → Option ((List (List Int)))
  | 0, _, _, _ => none
  | k + 1, x0, x3, x4 => if x4 < (x0.length : Int) then (if 0 ≤ x4 then ((laws_toIntS.f k (rd_L1 x0 x4)).bind fun t187 => (if x4 < (x3.length : Int) then (laws_toIntSS.l0 k x0 (x3.set (x4 : Int).toNat t187) (wrap64 (x4 + 1))) else (none))) else (none)) else (some x3)
def laws_toIntSS.f (k : Nat) (l0 : List (List Int)) : Option ((List (List Int))) := if 0 ≤ (l0.length : Int) then (if ((l0.length : Int) : Int).toNat ≤ 11728124029610 then (laws_toIntSS.l0 k l0 (List.replicate ((l0.length : Int) : Int).toNat []) 0) else (none)) else (none)
/-! ### laws_toLogic: function 17 -/
def laws_toLogic.f (k : Nat) (l0_0 : List (List Int)) (l0_1 : List Int) : Option ((List (List Int)) × List Int) := (laws_toIntSS.f k l0_0).bind fun t194 => ((laws_toIntS.f k l0_1).bind fun t197 => (some (t194, t197)))
/-! ### impl_turned: function 93 -/
mutual
def impl_turned.l0 : Nat → List (List Int) → List (List Int) → Int → Int → Option ((List (List Int)))
  | 0, _, _, _, _ => none
  | k + 1, x0, x3, x10, x11 => if x11 < x10 then (if 0 ≤ (x0.length : Int) then (if ((x0.length : Int) : Int).toNat ≤ 35184372088832 then (if 0 ≤ x11 then (if x11 < (x3.length : Int) then (impl_turned.l1 k x0 (x3.set (x11 : Int).toNat (List.replicate ((x0.length : Int) : Int).toNat 0)) x11 x10 x11 (x0.length : Int) 0) else (none)) else (none)) else (none)) else (none)) else (some x3)
def impl_turned.l1 : Nat → List (List Int) → List (List Int) → Int → Int → Int → Int → Int → Option ((List (List Int)))
  | 0, _, _, _, _, _, _, _ => none
  | k + 1, x0, x3, x4, x10, x11, x21, x22 => if x22 < x21 then (if 0 ≤ x4 then (if x4 < (x3.length : Int) then (if 0 ≤ x22 then (if x22 < (x0.length : Int) then (if x4 < ((rd_L1 x0 x22).length : Int) then (if x22 < ((rd_L1 x3 x4).length : Int) then (impl_turned.l1 k x0 (x3.set (x4 : Int).toNat ((rd_L1 x3 x4).set (x22 : Int).toNat (rd (rd_L1 x0 x22) x4))) x4 x10 x11 x21 (wrap64 (x22 + 1))) else (none)) else (none)) else (none)) else (none)) else (none)) else (none)) else (impl_turned.l0 k x0 x3 x10 (wrap64 (x11 + 1)))
end
def impl_turned.f (k : Nat) (l0 : List (List Int)) : Option ((List (List Int))) := if 0 ≤ (l0.length : Int) then (if ((l0.length : Int) : Int).toNat ≤ 11728124029610 then (impl_turned.l0 k l0 (List.replicate ((l0.length : Int) : Int).toNat []) (l0.length : Int) 0) else (none)) else (none)
/-! ### impl_meet: function 94 -/
mutual
def impl_meet.l0 : Nat → List (List Int) → Int → Int → Int → Int → Option (Int)
  | 0, _, _, _, _, _ => none
  | k + 1, x0, x1, x2, x11, x12 => if x12 < x11 then (if 0 ≤ x12 then (if x12 < (x0.length : Int) then (if 0 ≤ x1 then (if x1 < ((rd_L1 x0 x12).length : Int) then (if (rd (rd_L1 x0 x12) x1) = 0 then (impl_meet.j1 k x0 x1 x2 x12 x11 x12 true) else (if 0 ≤ x2 then (if x2 < ((rd_L1 x0 x12).length : Int) then (impl_meet.j1 k x0 x1 x2 x12 x11 x12 ((rd (rd_L1 x0 x12) x2) == 0)) else (none)) else (none))) else (none)) else (none)) else (none)) else (none)) else (some (-1))
def impl_meet.j1 : Nat → List (List Int) → Int → Int → Int → Int → Int → Bool → Option (Int)
  | 0, _, _, _, _, _, _, _ => none
  | k + 1, x0, x1, x2, x7, x11, x12, x32 => if x32 = true then (impl_meet.l0 k x0 x1 x2 x11 (wrap64 (x12 + 1))) else (impl_meet.l1 k x0 x1 x2 x7 true x11 x12 (x0.length : Int) 0)
def impl_meet.l1 : Nat → List (List Int) → Int → Int → Int → Bool → Int → Int → Int → Int → Option (Int)
  | 0, _, _, _, _, _, _, _, _, _ => none
  | k + 1, x0, x1, x2, x7, x8, x11, x12, x34, x35 => if x35 < x34 then (if x8 = true then (if 0 ≤ x35 then (if x35 < (x0.length : Int) then (if 0 ≤ x1 then (if x1 < ((rd_L1 x0 x35).length : Int) then (if (rd (rd_L1 x0 x35) x1) = 0 then (impl_meet.l1 k x0 x1 x2 x7 true x11 x12 x34 (wrap64 (x35 + 1))) else (if 0 ≤ x2 then (if x2 < ((rd_L1 x0 x35).length : Int) then (if (rd (rd_L1 x0 x35) x2) = 0 then (impl_meet.l1 k x0 x1 x2 x7 true x11 x12 x34 (wrap64 (x35 + 1))) else (if 0 ≤ x7 then (if x7 < ((rd_L1 x0 x35).length : Int) then (impl_meet.l1 k x0 x1 x2 x7 ((rd (rd_L1 x0 x35) x7) == 1) x11 x12 x34 (wrap64 (x35 + 1))) else (none)) else (none))) else (none)) else (none))) else (none)) else (none)) else (none)) else (none)) else (impl_meet.l1 k x0 x1 x2 x7 false x11 x12 x34 (wrap64 (x35 + 1)))) else (if x8 = true then (some x7) else (impl_meet.l0 k x0 x1 x2 x11 (wrap64 (x12 + 1))))
end
def impl_meet.f (k : Nat) (l0 : List (List Int)) (a1 : Int) (a2 : Int) : Option (Int) := impl_meet.l0 k l0 a1 a2 (l0.length : Int) 0
/-! ### impl_OrderOk: function 104 -/
mutual
def impl_OrderOk.j0 : Nat → List (List Int) → Int → Bool → Option (Bool)
  | 0, _, _, _ => none
  | k + 1, x0, x3, x18 => if x18 = true then (some false) else (impl_OrderOk.l0 k x0 x3 x0 (x0.length : Int) 0)
def impl_OrderOk.l0 : Nat → List (List Int) → Int → List (List Int) → Int → Int → Option (Bool)
  | 0, _, _, _, _, _ => none
  | k + 1, x0, x3, x19, x20, x21 => if x21 < x20 then (if 0 ≤ x21 then (if x21 < (x19.length : Int) then (if ((rd_L1 x19 x21).length : Int) = x3 then (if x21 < ((rd_L1 x19 x21).length : Int) then (impl_OrderOk.j2 k x0 x3 x21 (rd_L1 x19 x21) x19 x20 x21 ((rd (rd_L1 x19 x21) x21) != 1)) else (none)) else (impl_OrderOk.j2 k x0 x3 x21 (rd_L1 x19 x21) x19 x20 x21 true)) else (none)) else (none)) else (impl_OrderOk.l2 k x0 x3 x3 0)
def impl_OrderOk.j2 : Nat → List (List Int) → Int → Int → List Int → List (List Int) → Int → Int → Bool → Option (Bool)
  | 0, _, _, _, _, _, _, _, _ => none
  | k + 1, x0, x3, x4, x5, x19, x20, x21, x36 => if x36 = true then (some false) else (impl_OrderOk.l1 k x0 x3 x4 x19 x20 x21 x5 (x5.length : Int) 0)
def impl_OrderOk.l1 : Nat → List (List Int) → Int → Int → List (List Int) → Int → Int → List Int → Int → Int → Option (Bool)
  | 0, _, _, _, _, _, _, _, _, _ => none
  | k + 1, x0, x3, x4, x19, x20, x21, x37, x38, x39 => if x39 < x38 then (if 0 ≤ x39 then (if x39 < (x37.length : Int) then (if (rd x37 x39) = 0 then (impl_OrderOk.j4 k x0 x3 x4 x39 (rd x37 x39) x19 x20 x21 x37 x38 x39 false) else (impl_OrderOk.j4 k x0 x3 x4 x39 (rd x37 x39) x19 x20 x21 x37 x38 x39 ((rd x37 x39) != 1))) else (none)) else (none)) else (impl_OrderOk.l0 k x0 x3 x19 x20 (wrap64 (x21 + 1)))
def impl_OrderOk.j4 : Nat → List (List Int) → Int → Int → Int → Int → List (List Int) → Int → Int → List Int → Int → Int → Bool → Option (Bool)
  | 0, _, _, _, _, _, _, _, _, _, _, _, _ => none
  | k + 1, x0, x3, x4, x6, x7, x19, x20, x21, x37, x38, x39, x49 => if x49 = true then (some false) else (if 0 ≤ x6 then (if x6 < (x0.length : Int) then (if ((rd_L1 x0 x6).length : Int) = x3 then (if x7 = 1 then (if x4 = x6 then (impl_OrderOk.l1 k x0 x3 x4 x19 x20 x21 x37 x38 (wrap64 (x39 + 1))) else (if 0 ≤ x4 then (if x4 < ((rd_L1 x0 x6).length : Int) then (if (rd (rd_L1 x0 x6) x4) = 1 then (some false) else (impl_OrderOk.l1 k x0 x3 x4 x19 x20 x21 x37 x38 (wrap64 (x39 + 1)))) else (none)) else (none))) else (impl_OrderOk.l1 k x0 x3 x4 x19 x20 x21 x37 x38 (wrap64 (x39 + 1)))) else (some false)) else (none)) else (none))
def impl_OrderOk.l2 : Nat → List (List Int) → Int → Int → Int → Option (Bool)
  | 0, _, _, _, _ => none
  | k + 1, x0, x3, x78, x79 => if x79 < x78 then (impl_OrderOk.l3 k x0 x3 x79 x78 x79 x3 0) else (some true)
def impl_OrderOk.l3 : Nat → List (List Int) → Int → Int → Int → Int → Int → Int → Option (Bool)
  | 0, _, _, _, _, _, _, _ => none
  | k + 1, x0, x3, x8, x78, x79, x82, x83 => if x83 < x82 then (impl_OrderOk.l4 k x0 x3 x8 x83 x78 x79 x82 x83 x3 0) else (impl_OrderOk.l2 k x0 x3 x78 (wrap64 (x79 + 1)))
def impl_OrderOk.l4 : Nat → List (List Int) → Int → Int → Int → Int → Int → Int → Int → Int → Int → Option (Bool)
  | 0, _, _, _, _, _, _, _, _, _, _ => none
  | k + 1, x0, x3, x8, x9, x78, x79, x82, x83, x86, x87 => if x87 < x86 then (if 0 ≤ x8 then (if x8 < (x0.length : Int) then (if 0 ≤ x9 then (if x9 < ((rd_L1 x0 x8).length : Int) then (if (rd (rd_L1 x0 x8) x9) = 1 then (if x9 < (x0.length : Int) then (if 0 ≤ x87 then (if x87 < ((rd_L1 x0 x9).length : Int) then (if (rd (rd_L1 x0 x9) x87) = 1 then (if x87 < ((rd_L1 x0 x8).length : Int) then (if (rd (rd_L1 x0 x8) x87) = 1 then (impl_OrderOk.l4 k x0 x3 x8 x9 x78 x79 x82 x83 x86 (wrap64 (x87 + 1))) else (some false)) else (none)) else (impl_OrderOk.l4 k x0 x3 x8 x9 x78 x79 x82 x83 x86 (wrap64 (x87 + 1)))) else (none)) else (none)) else (none)) else (impl_OrderOk.l4 k x0 x3 x8 x9 x78 x79 x82 x83 x86 (wrap64 (x87 + 1)))) else (none)) else (none)) else (none)) else (none)) else (impl_OrderOk.l3 k x0 x3 x8 x78 x79 x82 (wrap64 (x83 + 1)))
end
def impl_OrderOk.f (k : Nat) (l0 : List (List Int)) : Option (Bool) := if (l0.length : Int) < 1 then (impl_OrderOk.j0 k l0 (l0.length : Int) true) else (impl_OrderOk.j0 k l0 (l0.length : Int) (decide ((l0.length : Int) > 12)))
/-! ### impl_LatticeOk: function 92 -/
mutual
def impl_LatticeOk.l0 : Nat → List (List Int) → List (List Int) → Int → Int → Option (Bool)
  | 0, _, _, _, _ => none
  | k + 1, x0, x3, x12, x13 => if x13 < x12 then (impl_LatticeOk.l1 k x0 x3 x13 x12 x13 (x0.length : Int) 0) else (some true)
def impl_LatticeOk.l1 : Nat → List (List Int) → List (List Int) → Int → Int → Int → Int → Int → Option (Bool)
  | 0, _, _, _, _, _, _, _ => none
  | k + 1, x0, x3, x4, x12, x13, x17, x18 => if x18 < x17 then ((impl_meet.f k x0 x4 x18).bind fun t239 => (if t239 < 0 then (some false) else ((impl_meet.f k x3 x4 x18).bind fun t240 => (if t240 < 0 then (some false) else (impl_LatticeOk.l1 k x0 x3 x4 x12 x13 x17 (wrap64 (x18 + 1))))))) else (impl_LatticeOk.l0 k x0 x3 x12 (wrap64 (x13 + 1)))
end
def impl_LatticeOk.f (k : Nat) (l0 : List (List Int)) : Option (Bool) := (impl_OrderOk.f k l0).bind fun t235 => (if t235 = true then ((impl_turned.f k l0).bind fun t236 => (impl_LatticeOk.l0 k l0 t236 (l0.length : Int) 0)) else (some false))
/-! ### impl_LeastOf: function 95 -/
mutual
def impl_LeastOf.l0 : Nat → List (List Int) → Int → Int → Option (Int × Bool)
  | 0, _, _, _ => none
  | k + 1, x12, x13, x14 => if x14 < x13 then (if 0 ≤ x14 then (if x14 < (x12.length : Int) then (impl_LeastOf.l1 k x14 true x12 x13 x14 (rd_L1 x12 x14) ((rd_L1 x12 x14).length : Int) 0) else (none)) else (none)) else (some ((-1), false))
def impl_LeastOf.l1 : Nat → Int → Bool → List (List Int) → Int → Int → List Int → Int → Int → Option (Int × Bool)
  | 0, _, _, _, _, _, _, _, _ => none
  | k + 1, x4, x6, x12, x13, x14, x19, x20, x21 => if x21 < x20 then (if 0 ≤ x21 then (if x21 < (x19.length : Int) then (if x6 = true then (impl_LeastOf.l1 k x4 ((rd x19 x21) == 1) x12 x13 x14 x19 x20 (wrap64 (x21 + 1))) else (impl_LeastOf.l1 k x4 false x12 x13 x14 x19 x20 (wrap64 (x21 + 1)))) else (none)) else (none)) else (if x6 = true then (some (x4, true)) else (impl_LeastOf.l0 k x12 x13 (wrap64 (x14 + 1))))
end
def impl_LeastOf.f (k : Nat) (l0 : List (List Int)) : Option (Int × Bool) := (impl_OrderOk.f k l0).bind fun t241 => (if t241 = true then (impl_LeastOf.l0 k l0 (l0.length : Int) 0) else (some ((-1), false)))
/-! ### impl_isAnswer: function 96 -/
def impl_isAnswer.f (l0 : List (List Int)) (a1 : Int) : Option (Bool) := if a1 ≥ 0 then (some (decide (a1 < (l0.length : Int)))) else (some false)
/-! ### laws_eqIntS: function 24 -/
def laws_eqIntS.l0 : Nat → List Int → List Int → Int → Option (Bool)
  | 0, _, _, _ => none
  | k + 1, x0, x1, x5 => if x5 < (x0.length : Int) then (if 0 ≤ x5 then (if x5 < (x1.length : Int) then (if (rd x0 x5) = (rd x1 x5) then (laws_eqIntS.l0 k x0 x1 (wrap64 (x5 + 1))) else (some false)) else (none)) else (none)) else (some true)
def laws_eqIntS.f (k : Nat) (l0 : List Int) (l1 : List Int) : Option (Bool) := if (l0.length : Int) = (l1.length : Int) then (laws_eqIntS.l0 k l0 l1 0) else (some false)
/-! ### laws_eqIntSS: function 54 -/
def laws_eqIntSS.l0 : Nat → List (List Int) → List (List Int) → Int → Option (Bool)
  | 0, _, _, _ => none
  | k + 1, x0, x1, x5 => if x5 < (x0.length : Int) then (if 0 ≤ x5 then (if x5 < (x1.length : Int) then ((laws_eqIntS.f k (rd_L1 x0 x5) (rd_L1 x1 x5)).bind fun t250 => (if t250 = true then (laws_eqIntSS.l0 k x0 x1 (wrap64 (x5 + 1))) else (some false))) else (none)) else (none)) else (some true)
def laws_eqIntSS.f (k : Nat) (l0 : List (List Int)) (l1 : List (List Int)) : Option (Bool) := if (l0.length : Int) = (l1.length : Int) then (laws_eqIntSS.l0 k l0 l1 0) else (some false)
/-! ### laws_eqLogic: function 19 -/
def laws_eqLogic.f (k : Nat) (l0_0 : List (List Int)) (l0_1 : List Int) (l1_0 : List (List Int)) (l1_1 : List Int) : Option (Bool) := (laws_eqIntSS.f k l0_0 l1_0).bind fun t253 => (if t253 = true then ((laws_eqIntS.f k l0_1 l1_1).bind fun t254 => (if t254 = true then (some true) else (some false))) else (some false))
/-! ### spec_l5With: function 61 -/
def spec_l5With.f (k : Nat) (l0_0 : List (List Int)) (l0_1 : List Int) (a1 : Int) (a2 : Int) : Option (Bool) := (spec_l1Meet.f k l0_0 a1 a2).bind fun t317 => (if 0 ≤ a2 then (if a2 < (l0_1.length : Int) then ((spec_l1Meet.f k l0_0 a1 (rd l0_1 a2)).bind fun t319 => ((spec_l1Join.f k l0_0 t317 t319).bind fun t320 => (some (t320 == a1)))) else (none)) else (none))
/-! ### spec_CentreOf: function 22 -/
mutual
def spec_CentreOf.l0 : Nat → List Int → Int → List (List Int) → List Int → Option (List Int)
  | 0, _, _, _, _ => none
  | k + 1, x3, x4, x322000, x322001 => if x4 < (x322001.length : Int) then ((spec_LogicOk.f k x322000 x322001).bind fun t325 => (spec_CentreOf.j1 k x3 x4 t325 x322000 x322001)) else (spec_CentreOf.j1 k x3 x4 false x322000 x322001)
def spec_CentreOf.j1 : Nat → List Int → Int → Bool → List (List Int) → List Int → Option (List Int)
  | 0, _, _, _, _, _ => none
  | k + 1, x3, x4, x16, x322000, x322001 => if x16 = true then (spec_CentreOf.l1 k x3 x4 true 0 x322000 x322001) else (some x3)
def spec_CentreOf.l1 : Nat → List Int → Int → Bool → Int → List (List Int) → List Int → Option (List Int)
  | 0, _, _, _, _, _, _ => none
  | k + 1, x3, x4, x5, x6, x322000, x322001 => if x6 < (x322001.length : Int) then (if x5 = true then ((spec_l5With.f k x322000 x322001 x4 x6).bind fun t326 => (if t326 = true then ((spec_l5With.f k x322000 x322001 x6 x4).bind fun t327 => (spec_CentreOf.l1 k x3 x4 t327 (wrap64 (x6 + 1)) x322000 x322001)) else (spec_CentreOf.l1 k x3 x4 false (wrap64 (x6 + 1)) x322000 x322001))) else (spec_CentreOf.l1 k x3 x4 false (wrap64 (x6 + 1)) x322000 x322001)) else (if x5 = true then (if x3.length < 17592186044416 then (spec_CentreOf.l0 k (x3 ++ [x4]) (wrap64 (x4 + 1)) x322000 x322001) else (none)) else (spec_CentreOf.l0 k x3 (wrap64 (x4 + 1)) x322000 x322001))
end
def spec_CentreOf.f (k : Nat) (l0_0 : List (List Int)) (l0_1 : List Int) : Option (List Int) := spec_CentreOf.l0 k (([] : List Int)) 0 l0_0 l0_1
/-! ### laws_markIntS: function 26 -/
def laws_markIntS.l0 : Nat → List Int → Int → Int → Option (Int × List Int)
  | 0, _, _, _ => none
  | k + 1, x0, x1, x5 => if x5 < (x0.length : Int) then (if 0 ≤ x5 then (laws_markIntS.l0 k (x0.set (x5 : Int).toNat x1) (wrap64 (x1 + 1)) (wrap64 (x5 + 1))) else (none)) else (some (x1, x0))
def laws_markIntS.f (k : Nat) (l0 : List Int) (a1 : Int) : Option (Int × List Int) := laws_markIntS.l0 k l0 a1 0
/-! ### laws_heldIntS: function 27 -/
def laws_heldIntS.l0 : Nat → List Int → Int → Int → Option (Int)
  | 0, _, _, _ => none
  | k + 1, x0, x1, x5 => if x5 < (x0.length : Int) then (if 0 ≤ x5 then (if (rd x0 x5) = x1 then (laws_heldIntS.l0 k x0 (wrap64 (x1 + 1)) (wrap64 (x5 + 1))) else (some (-1))) else (none)) else (some x1)
def laws_heldIntS.f (k : Nat) (l0 : List Int) (a1 : Int) : Option (Int) := laws_heldIntS.l0 k l0 a1 0
/-! ### laws_heldIntSS: function 77 -/
def laws_heldIntSS.l0 : Nat → List (List Int) → Int → Int → Option (Int)
  | 0, _, _, _ => none
  | k + 1, x0, x1, x5 => if x5 < (x0.length : Int) then (if 0 ≤ x5 then ((laws_heldIntS.f k (rd_L1 x0 x5) x1).bind fun t486 => (if t486 < 0 then (some (-1)) else (laws_heldIntSS.l0 k x0 t486 (wrap64 (x5 + 1))))) else (none)) else (some x1)
def laws_heldIntSS.f (k : Nat) (l0 : List (List Int)) (a1 : Int) : Option (Int) := laws_heldIntSS.l0 k l0 a1 0
/-! ### laws_heldLogic: function 36 -/
def laws_heldLogic.f (k : Nat) (l0_0 : List (List Int)) (l0_1 : List Int) (a1 : Int) : Option (Int) := (laws_heldIntSS.f k l0_0 a1).bind fun t488 => (if t488 < 0 then (some (-1)) else ((laws_heldIntS.f k l0_1 t488).bind fun t489 => (if t489 < 0 then (some (-1)) else (some t489))))
/-! ### spec_RingOf: function 42 -/
def spec_RingOf.f (a0 : Int) : Option ((List (List Int)) × List Int × Bool) := if a0 = 6 then (some ((([(([1, 1, 1, 1, 1, 1] : List Int)), (([0, 1, 1, 0, 0, 1] : List Int)), (([0, 0, 1, 0, 0, 1] : List Int)), (([0, 0, 0, 1, 1, 1] : List Int)), (([0, 0, 0, 0, 1, 1] : List Int)), (([0, 0, 0, 0, 0, 1] : List Int))] : List (List Int))), (([5, 4, 3, 2, 1, 0] : List Int)), true)) else (some (([] : List (List Int)), ([] : List Int), false))
/-! ### impl_RingOf: own -/
def impl_RingOf.f (a0 : Int) : Option ((List (List Int)) × List Int × Bool) := some (ringF a0)
/-! ### spec_SetsOf: function 44 -/
mutual
def spec_SetsOf.l0 : Nat → Int → Int → List (List Int) → List Int → Option ((List (List Int)) × List Int × Bool)
  | 0, _, _, _, _ => none
  | k + 1, x0, x5, x734000, x734001 => if 0 ≤ x0 then (if x5 < (shl .i64 1 x0) then (spec_SetsOf.l1 k x0 x5 (([] : List Int)) 0 x734000 x734001) else (some (x734000, x734001, true))) else (none)
def spec_SetsOf.l1 : Nat → Int → Int → List Int → Int → List (List Int) → List Int → Option ((List (List Int)) × List Int × Bool)
  | 0, _, _, _, _, _, _ => none
  | k + 1, x0, x5, x6, x7, x734000, x734001 => if 0 ≤ x0 then (if x7 < (shl .i64 1 x0) then (if (Go.bits .and .i64 x5 x7) = x5 then (if x6.length < 17592186044416 then (spec_SetsOf.l1 k x0 x5 (x6 ++ [1]) (wrap64 (x7 + 1)) x734000 x734001) else (none)) else (if x6.length < 17592186044416 then (spec_SetsOf.l1 k x0 x5 (x6 ++ [0]) (wrap64 (x7 + 1)) x734000 x734001) else (none))) else (if x734000.length < 5864062014805 then (if x734001.length < 17592186044416 then (spec_SetsOf.l0 k x0 (wrap64 (x5 + 1)) (x734000 ++ [x6]) (x734001 ++ [wrap64 ((wrap64 ((shl .i64 1 x0) - 1)) - x5)])) else (none)) else (none))) else (none)
end
def spec_SetsOf.f (k : Nat) (a0 : Int) : Option ((List (List Int)) × List Int × Bool) := (spec_l1In.f a0 0 3).bind fun t734 => (if t734 = true then (spec_SetsOf.l0 k a0 0 ([] : List (List Int)) ([] : List Int)) else (some (([] : List (List Int)), ([] : List Int), false)))
/-! ### impl_SetsOf: own -/
def impl_SetsOf.f (a0 : Int) : Option ((List (List Int)) × List Int × Bool) := some (setsF a0)
/-! ### spec_NoOf: function 101 -/
def spec_NoOf.f (k : Nat) (l0_0 : List (List Int)) (l0_1 : List Int) : Option (Int) := (spec_LogicOk.f k l0_0 l0_1).bind fun t768 => (if t768 = true then ((spec_LeastOf.f k l0_0).bind fun bt769 => (some bt769.1)) else (some (-1)))
/-! ### spec_l2Both: function 106 -/
def spec_l2Both.f (k : Nat) (l0_0 : List (List Int)) (l0_1 : List Int) (a1 : Int) (a2 : Int) : Option (Bool) := (spec_LogicOk.f k l0_0 l0_1).bind fun t772 => (if t772 = true then ((spec_l1In.f a1 0 (wrap64 ((l0_1.length : Int) - 1))).bind fun t773 => (if t773 = true then ((spec_l1In.f a2 0 (wrap64 ((l0_1.length : Int) - 1))).bind fun t774 => (some t774)) else (some false))) else (some false))
/-! ### spec_NotOf: function 105 -/
def spec_NotOf.f (k : Nat) (l0_0 : List (List Int)) (l0_1 : List Int) (a1 : Int) : Option (Int) := (spec_l2Both.f k l0_0 l0_1 a1 a1).bind fun t776 => (if t776 = true then (if 0 ≤ a1 then (if a1 < (l0_1.length : Int) then (some (rd l0_1 a1)) else (none)) else (none)) else (some (-1)))
/-! ### spec_YesOf: function 102 -/
def spec_YesOf.f (k : Nat) (l0_0 : List (List Int)) (l0_1 : List Int) : Option (Int) := (spec_NoOf.f k l0_0 l0_1).bind fun t779 => ((spec_NotOf.f k l0_0 l0_1 t779).bind fun t780 => (some t780))
end Go.Proofs.Ytlkibgccgkhdmaa.P

-- written by gen.py (a program of this session) out of the kit's print of this seat's translation
namespace Go.Proofs.Ytlkibgccgkhdmaa.P
open Go.RowKit Go.Proofs.YtlkibgccgkhdmaaW.PrintWords Go.Proofs.YtlkibgccgkhdmaaW.PrintLast Go.Proofs.YtlkibgccgkhdmaaW.PrintMore
attribute [local go_sem] max2_int min2_int max_two min_two max_three min_three max_four min_four
set_option linter.unusedVariables false
set_option linter.unusedSimpArgs false
theorem info3 : (Try.prog.info? 3).map (fun i => (i.zero, i.size, i.bytes)) = some (some (.int .i64 0), 1, 8) := by kernel_rfl
theorem info23 : (Try.prog.info? 23).map (fun i => (i.zero, i.size, i.bytes)) = some (some (.slice none 0 0), 1, 24) := by kernel_rfl
end Go.Proofs.Ytlkibgccgkhdmaa.P

namespace Go.Proofs.Ytlkibgccgkhdmaa.P
open Go.RowKit Go.Proofs.YtlkibgccgkhdmaaW.PrintWords Go.Proofs.YtlkibgccgkhdmaaW.PrintLast Go.Proofs.YtlkibgccgkhdmaaW.PrintMore
set_option linter.unusedVariables false
def bA (n m : Nat) : Array Bool := ((List.range n).map fun i => m.testBit i).toArray
section
variable {P : Program} {md : Region.Mode} {ops : Array Oper} {Q : Exit → Act → World → Prop} {S : World → Prop} {ds : List Nat} {i : Nat} {N : Option Tmp} {oi : Oper} {v : Value} {fuel : Nat} {l : Array Bool} {a a' : Act} {w : World}
theorem pu_ (l' : Array Bool) (h : wpAnyLast P md ops Q S ds fuel l' a' w) (hi : ops[i]? = some oi := by rfl) (hN : oi.dst = N := by rfl) (hc : anyB md ops l l' i = true := by first | exact any_of HT_.out (by kernel_rfl) | kernel_rfl)
    (hQ : ∀ c a w, Q (.panic c) (a.put oi.dst v) w → Q (.panic c) a w := by exact fun _ _ _ h => h)
    (hy : Yields P ops oi v a := by (refine Or.inl ⟨by rfl, ?_⟩; intro w'; go_simp; with_reducible rfl))
    (ha : a.put N v = a' := by (simp only [Act.put, List.setIfInBounds_toArray, List.set_cons_zero, List.set_cons_succ, i64_w, i32_w]; rfl))
     : wpAnyLast P md ops Q S ds (fuel + 1) l a w := pure_ l' hi hN hc hQ hy ha h
theorem tk_ (l' : Array Bool) (h : wpAnyLast P md ops Q S ds fuel l' a' w) (hi : ops[i]? = some oi := by rfl) (hN : oi.dst = N := by rfl) (hc : takeB md ops ds l l' i = true := by first | exact take_ofW HT_.out HW_.out (by kernel_rfl) | kernel_rfl)
    (hQ : ∀ c a w, Q (.panic c) (a.put oi.dst v) w → Q (.panic c) a w := by exact fun _ _ _ h => h)
    (hy : YieldsIf P ops S oi v a := by (refine Or.inl ⟨by rfl, ?_⟩; intro w' hs_; (repeat (obtain ⟨_, hs_⟩ := hs_)); go_simp; with_reducible rfl)) (hS : S w := by exact hHeld)
    (ha : a.put N v = a' := by (simp only [Act.put, List.setIfInBounds_toArray, List.set_cons_zero, List.set_cons_succ, i64_w, i32_w]; rfl))
     : wpAnyLast P md ops Q S ds (fuel + 1) l a w := take_ l' hi hN hc hQ hy hS ha h
theorem no_ (h : wpAnyLast P md ops Q S ds fuel l a' w) (h0 : a.put N v = a' := by (simp only [Act.put, List.setIfInBounds_toArray, List.set_cons_zero, List.set_cons_succ, i64_w, i32_w]; rfl))  : wpAnyLast P md ops Q S ds fuel l (a.put N v) w := norm_ h0 h
end
section
variable {P : Program} {ops : Array Oper} {rest : List Oper} {o : Oper} {a : Act} {Q : Exit → Act → World → Prop}
theorem bx_ {W : World} {N : Tmp} {cs : Array Value} {t : TypeId} (h : ∀ g, g = W.heap.size → ∀ w1, w1.heap[g]? = some (.cells cs t (0, 0)) → Below W.heap.size W w1 → wpList P ops Q rest (a.put o.dst (.pointer (some ⟨g, 0, none⟩))) w1) (hd : o.dst = some N := by rfl) (hgd : o.guard = none := by rfl)
    (hrun : (execOp a.eval o).run P W = .ok (.value (.pointer (some ⟨W.heap.size, 0, none⟩))) (W.alloc (.cells cs t (0, 0))) := by first | (go_simp; done) | (go_simp; rfl))
     : wpList P ops Q (o :: rest) a W := box_event hgd hd hrun h
theorem gl_ {w : World} (N : Option Tmp) {f : FuncId} {fn : Func} (hf : P.funcs[f]? = some fn) {as_ : Array Operand} {ts : Array TypeId} (args : Array Value) (h : Calls P f args w fun e w' => ∃ v, e = .returned v ∧ wpList P ops Q rest (a.put N v) w') (hd : o.dst = N := by rfl) (hg : o.guard = none := by rfl) (hname : (fn.name == "runtime.NumGoroutine") = false := by kernel_rfl) (hb : fn.body.isSome = true := by rfl)
    (hop : o.op = .call { callee := .value (.func f), args := as_, argTypes := ts } := by rfl) (hargs : as_.map a.eval = args := by (try simp only [List.map_toArray, List.map_cons, List.map_nil]); first | done | rfl | (simp only [List.length_drop, List.length_take]; rfl))
     : wpList P ops Q (o :: rest) a w := goesL_ N hd hg hf hname hb args hop hargs h
end
theorem cz20 {w : World} {g : Nat} {t : TypeId} {x y : Value} (h : w.heap[g]? = some (.cells #[x, y] t (0, 0))) : w.cell? ⟨g, 0, none⟩ = some x := (blk_cell h 0).trans rfl
theorem cz21 {w : World} {g : Nat} {t : TypeId} {x y : Value} (h : w.heap[g]? = some (.cells #[x, y] t (0, 0))) : w.cell? ⟨g, 1, none⟩ = some y := (blk_cell h 1).trans rfl
theorem y3 {p r q : Prop} (h0 : p) (h1 : r) (h : p → r → q := by intro y0_ y1_; (repeat (first | exact (Kd.C_below y0_ y1_) | (with_reducible refine Kd.C_alloc ?_ _) | (with_reducible refine Kd.C_drewN ?_ _) | (with_reducible refine Kd.C_drew ?_)))) : q := h h0 h1
theorem y4 {p q : Prop} (h0 : p) (h : p → q := by intro y0_; (repeat (first | exact y0_ | (with_reducible refine Kd.C_alloc ?_ _) | (with_reducible refine Kd.C_drewN ?_ _) | (with_reducible refine Kd.C_drew ?_)))) : q := h h0
theorem bd_ {α β : Type} {o : Option α} {f : α → Option β} {r : β} (h : o.bind f = some r) : ∃ a, Aside0 (o = some a) ∧ f a = some r :=
  match Option.bind_eq_some_iff.mp h with | ⟨a, h1, h2⟩ => ⟨a, ⟨h1⟩, h2⟩
theorem nf_ : ¬ (false = true) := by decide
section
variable {α : Type} [BEq α] [LawfulBEq α] {a b : α}
theorem bt_ (h : a = b) : (a == b) = true := beq_iff_eq.mpr h
theorem bu_ (h : a = b) : (a != b) = false := bne_eq_false_iff_eq.mpr h
theorem bv_ (h : ¬ a = b) : (a == b) = false := beq_eq_false_iff_ne.mpr h
theorem bw_ (h : ¬ a = b) : (a != b) = true := bne_iff_ne.mpr h
end
theorem dT_ {p : Prop} [Decidable p] (h : p) : decide p = true := decide_eq_true h
theorem dF_ {p : Prop} [Decidable p] (h : ¬ p) : decide p = false := decide_eq_false h
section
variable {α : Type} {p q : Prop}
theorem ok_ [Decidable p] {x : Option α} {r : α} (h : (if p then x else none) = some r) : p ∧ x = some r := by
  by_cases k : p
  · rw [if_pos k] at h
    exact ⟨k, h⟩
  · rw [if_neg k] at h
    exact absurd h (by simp)
theorem od_ [Decidable p] {x : Option α} {r : α} (h : (if p then x else none) = some r) : decide p = true ∧ x = some r := ⟨decide_eq_true (ok_ h).1, (ok_ h).2⟩
theorem oa_ [Decidable p] (h : decide p = true := by first | (with_reducible assumption) | assumption) : p := of_decide_eq_true h
theorem xS (h0 : p) (h : p → q := by intro y0_; (with_reducible repeat (first | apply Kd.S_alloc | apply Kd.S_drewN | apply Kd.S_drew)); exact y0_) : q := h h0
theorem xR (h0 : p) (h : p → q := by intro y0_; (with_reducible repeat (first | apply Kd.R_alloc | apply Kd.R_drewN | apply Kd.R_drew)); exact y0_) : q := h h0
theorem xN (h0 : p) (h : p → q := by intro y0_; (with_reducible repeat (first | apply Kd.N_alloc | apply Kd.N_drewN | apply Kd.N_drew)); exact y0_) : q := h h0
theorem xb (h0 : p) (h : p → q := by intro y0_; (with_reducible repeat (first | refine blk_drewN ?_ _ | refine blk_drew ?_ | refine blk_alloc ?_ _)); exact y0_) : q := h h0
end
theorem al_ {w : World} {A : Option Addr} {n : Nat} {xs : List (List Int)} (h : Kd.C (Kd.slice 3 (Kd.int .i64)) w A n xs) (i : Int) (h0 : decide (0 ≤ i) = true := by first | (with_reducible assumption) | assumption) (h1 : decide (i < (n : Int)) = true := by first | (with_reducible assumption) | assumption) :
    ∃ ad A0 c0, A = some ad ∧ w.cell? (ad.add i.toNat) = some (.slice A0 (rd_L1 xs i).length c0) ∧ Aside0 ((rd_L1 xs i).length ≤ c0) ∧ Aside0 ((Kd.int .i64).C w A0 (rd_L1 xs i).length (rd_L1 xs i)) ∧ ((0 ≤ i) = True) ∧ ((i < (n : Int)) = True) := by
  obtain ⟨ad, A0, c0, h2, h3, h4, h5⟩ := at_L1 h i (of_decide_eq_true h0) (of_decide_eq_true h1)
  exact ⟨ad, A0, c0, h2, h3, ⟨h4⟩, ⟨h5⟩, eq_true (of_decide_eq_true h0), eq_true (of_decide_eq_true h1)⟩
theorem ai_ {w : World} {A : Option Addr} {n : Nat} {k : IntKind} {xs : List Int} (h : (Kd.int k).C w A n xs) (i : Int) (h0 : decide (0 ≤ i) = true := by first | (with_reducible assumption) | assumption) (h1 : decide (i < (n : Int)) = true := by first | (with_reducible assumption) | assumption) :
    ∃ ad, A = some ad ∧ w.cell? (ad.add i.toNat) = some (.int k (rd xs i)) ∧ ((0 ≤ i) = True) ∧ ((i < (n : Int)) = True) := by
  obtain ⟨ad, h2, h3⟩ := Kd.at_int h i (of_decide_eq_true h0) (of_decide_eq_true h1)
  exact ⟨ad, h2, h3, eq_true (of_decide_eq_true h0), eq_true (of_decide_eq_true h1)⟩
theorem ak {p : Prop} (h : p) : Aside0 p := ⟨h⟩
section
variable {α : Type} {p p2 p3 p4 p5 p6 : Prop} [Decidable p] [Decidable p2] [Decidable p3] [Decidable p4] [Decidable p5] [Decidable p6] {x y : Option α} {r : α}
theorem od2 (h : (if p then if p2 then x else none else none) = some r) : decide p = true ∧ decide p2 = true ∧ x = some r := ⟨(od_ h).1, od_ (od_ h).2⟩
theorem os_ (h : (if p then x else y) = some r) : decide p = true ∧ x = some r ∨ decide p = false ∧ y = some r := by
  by_cases k : p
  · rw [if_pos k] at h
    exact .inl ⟨decide_eq_true k, h⟩
  · rw [if_neg k] at h
    exact .inr ⟨decide_eq_false k, h⟩
theorem oe2 {β : Type} [BEq β] [LawfulBEq β] {a b : β} [Decidable (a = b)] (h : (if a = b then x else y) = some r) : (a = b ∧ (a == b) = true ∧ (a != b) = false) ∧ x = some r ∨ ((¬ a = b) ∧ (a == b) = false ∧ (a != b) = true) ∧ y = some r := by
  by_cases k : a = b
  · rw [if_pos k] at h
    exact .inl ⟨⟨k, bt_ k, bu_ k⟩, h⟩
  · rw [if_neg k] at h
    exact .inr ⟨⟨k, bv_ k, bw_ k⟩, h⟩
end
section
variable {α : Type} {p : Prop} {x y : Option α} {r : α}
theorem op_ [Decidable p] (h : (if p then x else y) = some r) : p ∧ x = some r ∨ ¬ p ∧ y = some r := by
  by_cases k : p
  · rw [if_pos k] at h
    exact .inl ⟨k, h⟩
  · rw [if_neg k] at h
    exact .inr ⟨k, h⟩
theorem ox_ {b : Bool} (h : (if b = true then x else y) = some r) : b = true ∧ x = some r ∨ b = false ∧ y = some r := by
  cases b with
  | true => exact .inl ⟨rfl, by rw [if_pos rfl] at h; exact h⟩
  | false => exact .inr ⟨rfl, by rw [if_neg nf_] at h; exact h⟩
end
end Go.Proofs.Ytlkibgccgkhdmaa.P


-- written by gen.py (a program of this session) out of the kit's print of this seat's translation
namespace Go.Proofs.Ytlkibgccgkhdmaa.P
open Go.RowKit Go.Proofs.YtlkibgccgkhdmaaW.PrintWords Go.Proofs.YtlkibgccgkhdmaaW.PrintLast Go.Proofs.YtlkibgccgkhdmaaW.PrintMore
attribute [local go_sem] max2_int min2_int max_two min_two max_three min_three max_four min_four
set_option linter.unusedVariables false
set_option linter.unusedSimpArgs false
theorem z1_1 {p : Prop} (h : p := by first | rfl | (simp; done) | (simp [*]; done)) : p := h
theorem z1_0 {p : Prop} (h : p := by repeat (first | exact Drawn0.refl _ | apply Drawn0.step)) : p := h
set_option maxHeartbeats 8000000 in
set_option maxRecDepth 100000 in
theorem laws_eqIntS.calls (k : Nat) (A0 : Option Addr) (c0 : Nat) (l0 : List Int) (A1 : Option Addr) (c1 : Nat) (l1 : List Int) (r : Bool) (w : World) (hr0 : Kd.C (Kd.int .i64) w A0 l0.length l0) (hc0 : l0.length ≤ c0) (hr1 : Kd.C (Kd.int .i64) w A1 l1.length l1) (hc1 : l1.length ≤ c1) (h : laws_eqIntS.f k l0 l1 = some r) :
 Calls Try.prog 24 #[.slice A0 l0.length c0, .slice A1 l1.length c1] w fun e w' => e = .returned (.bool r) ∧ Drawn0 w w' := by
 have HR0 := ak hr0
 have b1 := ak hc0
 clear hr0 hc0
 have HR1 := ak hr1
 have b2 := ak hc1
 clear hr1 hc1
 have H : (if (l0.length : Int) = (l1.length : Int) then (laws_eqIntS.l0 k l0 l1 0) else (some false)) = some r := h
 clear h
 replace H := oe2 H
 rcases H with ⟨⟨c3, a1, a2⟩, H⟩ | ⟨⟨c3, a1, a2⟩, H⟩
 ·
  have a3 : (l0.length == l1.length) = true := by first | simpa using c3 | (simp at c3 ⊢; omega)
  clear c3
  have H' := ak H
  clear H
  go_enter Try.func24, Try.ntmps24
  go_wp2
  repeat (go_quiet (fail); try go_wp2)
  go_loopg [5] k (fun kq v5 w' => ∃ (a0 : Int), v5 = .int .i64 a0 ∧ Aside0 (laws_eqIntS.l0 kq l0 l1 a0 = some r) ∧ Aside0 (kq ≤ k) ∧ Drawn0 w w')
  case atStart => exact ⟨(0), z1_1, H', ⟨Nat.le_refl _⟩, z1_0⟩
  case round =>
   clear H'
   try clear c1
   try clear c3
   try clear a1
   try clear a2
   try clear a3
   obtain ⟨a0, rfl, HA, HK1, ⟨m1, rfl⟩⟩ := hrel
   cases gk with
   | zero => exact absurd HA.out (by simp [laws_eqIntS.l0])
   | succ k1 =>
    have H := HA.out
    clear HA
    simp only [laws_eqIntS.l0] at H
    replace H := os_ H
    rcases H with ⟨a4, H⟩ | ⟨a4, H⟩
    ·
     replace H := od2 H
     obtain ⟨a9, b0, H⟩ := H
     replace H := oe2 H
     rcases H with ⟨⟨-, a5, a6⟩, H⟩ | ⟨⟨c7, a5, a6⟩, H⟩
     ·
      have H' := ak H
      clear H
      obtain ⟨ad246, e246, hx246_0, a7, q246⟩ := ai_ HR0.out a0
      cases e246
      obtain ⟨ad247, e247, hx247_0, a8, q247⟩ := ai_ HR1.out a0
      cases e247
      go_wp2
      repeat (go_quiet (fail); try go_wp2)
      go_roundg k1
      case measure => have := HK1.out; omega
      case rel => exact ⟨(wrap64 (a0 + 1)), z1_1, H', ⟨(by have := HK1.out; omega)⟩, z1_0⟩
     obtain rfl := Option.some.inj H
     obtain ⟨ad246, e246, hx246_0, a7, q246⟩ := ai_ HR0.out a0
     cases e246
     obtain ⟨ad247, e247, hx247_0, a8, q247⟩ := ai_ HR1.out a0
     cases e247
     go_wp2
     repeat (go_quiet (fail); try go_wp2)
     go_ret
     exact ⟨z1_1, z1_0⟩
    obtain rfl := Option.some.inj H
    go_wp2
    repeat (go_quiet (fail); try go_wp2)
    go_ret
    exact ⟨z1_1, z1_0⟩
 have a3 : (l0.length == l1.length) = false := by first | simpa using c3 | (simp at c3 ⊢; omega)
 obtain rfl := Option.some.inj H
 go_enter Try.func24, Try.ntmps24
 go_wp2
 repeat (go_quiet (fail); try go_wp2)
 go_ret
 exact ⟨z1_1, z1_0⟩

end Go.Proofs.Ytlkibgccgkhdmaa.P

-- written by gen.py (a program of this session) out of the kit's print of this seat's translation
namespace Go.Proofs.Ytlkibgccgkhdmaa.P
open Go.RowKit Go.Proofs.YtlkibgccgkhdmaaW.PrintWords Go.Proofs.YtlkibgccgkhdmaaW.PrintLast Go.Proofs.YtlkibgccgkhdmaaW.PrintMore
attribute [local go_sem] max2_int min2_int max_two min_two max_three min_three max_four min_four
set_option linter.unusedVariables false
set_option linter.unusedSimpArgs false
theorem z2_1 {p : Prop} (h : p := by first | rfl | (simp; done) | (simp [*]; done)) : p := h
theorem z2_0 {p : Prop} (h : p := by repeat (first | exact Drawn0.refl _ | apply Drawn0.step)) : p := h
set_option maxHeartbeats 8000000 in
set_option maxRecDepth 100000 in
theorem laws_eqIntSS.calls (k : Nat) (A0 : Option Addr) (c0 : Nat) (l0 : List (List Int)) (A1 : Option Addr) (c1 : Nat) (l1 : List (List Int)) (r : Bool) (w : World) (hr0 : Kd.C (Kd.slice 3 (Kd.int .i64)) w A0 l0.length l0) (hc0 : l0.length ≤ c0) (hr1 : Kd.C (Kd.slice 3 (Kd.int .i64)) w A1 l1.length l1) (hc1 : l1.length ≤ c1) (h : laws_eqIntSS.f k l0 l1 = some r) :
 Calls Try.prog 54 #[.slice A0 l0.length c0, .slice A1 l1.length c1] w fun e w' => e = .returned (.bool r) ∧ Drawn0 w w' := by
 have HR0 := ak hr0
 have b6 := ak hc0
 clear hr0 hc0
 have HR1 := ak hr1
 have b7 := ak hc1
 clear hr1 hc1
 have H : (if (l0.length : Int) = (l1.length : Int) then (laws_eqIntSS.l0 k l0 l1 0) else (some false)) = some r := h
 clear h
 replace H := oe2 H
 rcases H with ⟨⟨c3, a7, a8⟩, H⟩ | ⟨⟨c3, a7, a8⟩, H⟩
 ·
  have a9 : (l0.length == l1.length) = true := by first | simpa using c3 | (simp at c3 ⊢; omega)
  clear c3
  have H' := ak H
  clear H
  go_enter Try.func54, Try.ntmps54
  go_wp2
  repeat (go_quiet (fail); try go_wp2)
  go_loopg [5] k (fun kq v5 w' => ∃ (a0 : Int), v5 = .int .i64 a0 ∧ Aside0 (laws_eqIntSS.l0 kq l0 l1 a0 = some r) ∧ Aside0 (kq ≤ k) ∧ Drawn0 w w')
  case atStart => exact ⟨(0), z2_1, H', ⟨Nat.le_refl _⟩, z2_0⟩
  case round =>
   clear H'
   try clear c1
   try clear c3
   try clear a7
   try clear a8
   try clear a9
   obtain ⟨a0, rfl, HA, HK1, ⟨m1, rfl⟩⟩ := hrel
   cases gk with
   | zero => exact absurd HA.out (by simp [laws_eqIntSS.l0])
   | succ k1 =>
    have H := HA.out
    clear HA
    simp only [laws_eqIntSS.l0] at H
    replace H := os_ H
    rcases H with ⟨b0, H⟩ | ⟨b0, H⟩
    ·
     replace H := od2 H
     obtain ⟨b3, b4, H⟩ := H
     obtain ⟨b5, A7, H⟩ := bd_ H
     try dsimp only at H
     replace H := ox_ H
     rcases H with ⟨rfl, H⟩ | ⟨rfl, H⟩
     ·
      have H' := ak H
      clear H
      obtain ⟨ad248, a3, a4, e248, hx248_0, a1, HR248_0, b1, q248⟩ := al_ HR0.out a0
      cases e248
      obtain ⟨ad249, a5, a6, e249, hx249_0, a2, HR249_0, b2, q249⟩ := al_ HR1.out a0
      cases e249
      go_wp2_with (first | (go_at_call 24; (with_reducible refine (laws_eqIntS.calls k1 _ _ (rd_L1 l0 a0) _ _ (rd_L1 l1 a0) true _ (y4 HR248_0.out) a1.out (y4 HR249_0.out) a2.out A7.out).mono ?_); rintro e w' ⟨rfl, ⟨nd, rfl⟩⟩; (try first | exact ⟨rfl, _, World.drewN_drewN _ _ _⟩ | exact ⟨rfl, _, Eq.trans (World.drewN_drewN _ _ _) (congrArg (World.drewN _) (Nat.add_assoc _ _ _))⟩)))
      repeat (go_quiet (first | (go_at_call 24; (with_reducible refine (laws_eqIntS.calls k1 _ _ (rd_L1 l0 a0) _ _ (rd_L1 l1 a0) true _ (y4 HR248_0.out) a1.out (y4 HR249_0.out) a2.out A7.out).mono ?_); rintro e w' ⟨rfl, ⟨nd, rfl⟩⟩; (try first | exact ⟨rfl, _, World.drewN_drewN _ _ _⟩ | exact ⟨rfl, _, Eq.trans (World.drewN_drewN _ _ _) (congrArg (World.drewN _) (Nat.add_assoc _ _ _))⟩))); try go_wp2_with (first | (go_at_call 24; (with_reducible refine (laws_eqIntS.calls k1 _ _ (rd_L1 l0 a0) _ _ (rd_L1 l1 a0) true _ (y4 HR248_0.out) a1.out (y4 HR249_0.out) a2.out A7.out).mono ?_); rintro e w' ⟨rfl, ⟨nd, rfl⟩⟩; (try first | exact ⟨rfl, _, World.drewN_drewN _ _ _⟩ | exact ⟨rfl, _, Eq.trans (World.drewN_drewN _ _ _) (congrArg (World.drewN _) (Nat.add_assoc _ _ _))⟩))))
      go_roundg k1
      case measure => have := HK1.out; omega
      case rel => exact ⟨(wrap64 (a0 + 1)), z2_1, H', ⟨(by have := HK1.out; omega)⟩, z2_0⟩
     obtain rfl := Option.some.inj H
     obtain ⟨ad248, a3, a4, e248, hx248_0, a1, HR248_0, b1, q248⟩ := al_ HR0.out a0
     cases e248
     obtain ⟨ad249, a5, a6, e249, hx249_0, a2, HR249_0, b2, q249⟩ := al_ HR1.out a0
     cases e249
     go_wp2_with (first | (go_at_call 24; (with_reducible refine (laws_eqIntS.calls k1 _ _ (rd_L1 l0 a0) _ _ (rd_L1 l1 a0) false _ (y4 HR248_0.out) a1.out (y4 HR249_0.out) a2.out A7.out).mono ?_); rintro e w' ⟨rfl, ⟨nd, rfl⟩⟩; (try first | exact ⟨rfl, _, World.drewN_drewN _ _ _⟩ | exact ⟨rfl, _, Eq.trans (World.drewN_drewN _ _ _) (congrArg (World.drewN _) (Nat.add_assoc _ _ _))⟩)))
     repeat (go_quiet (first | (go_at_call 24; (with_reducible refine (laws_eqIntS.calls k1 _ _ (rd_L1 l0 a0) _ _ (rd_L1 l1 a0) false _ (y4 HR248_0.out) a1.out (y4 HR249_0.out) a2.out A7.out).mono ?_); rintro e w' ⟨rfl, ⟨nd, rfl⟩⟩; (try first | exact ⟨rfl, _, World.drewN_drewN _ _ _⟩ | exact ⟨rfl, _, Eq.trans (World.drewN_drewN _ _ _) (congrArg (World.drewN _) (Nat.add_assoc _ _ _))⟩))); try go_wp2_with (first | (go_at_call 24; (with_reducible refine (laws_eqIntS.calls k1 _ _ (rd_L1 l0 a0) _ _ (rd_L1 l1 a0) false _ (y4 HR248_0.out) a1.out (y4 HR249_0.out) a2.out A7.out).mono ?_); rintro e w' ⟨rfl, ⟨nd, rfl⟩⟩; (try first | exact ⟨rfl, _, World.drewN_drewN _ _ _⟩ | exact ⟨rfl, _, Eq.trans (World.drewN_drewN _ _ _) (congrArg (World.drewN _) (Nat.add_assoc _ _ _))⟩))))
     go_ret
     exact ⟨z2_1, z2_0⟩
    obtain rfl := Option.some.inj H
    go_wp2
    repeat (go_quiet (fail); try go_wp2)
    go_ret
    exact ⟨z2_1, z2_0⟩
 have a9 : (l0.length == l1.length) = false := by first | simpa using c3 | (simp at c3 ⊢; omega)
 obtain rfl := Option.some.inj H
 go_enter Try.func54, Try.ntmps54
 go_wp2
 repeat (go_quiet (fail); try go_wp2)
 go_ret
 exact ⟨z2_1, z2_0⟩

end Go.Proofs.Ytlkibgccgkhdmaa.P

-- written by gen.py (a program of this session) out of the kit's print of this seat's translation
namespace Go.Proofs.Ytlkibgccgkhdmaa.P
open Go.RowKit Go.Proofs.YtlkibgccgkhdmaaW.PrintWords Go.Proofs.YtlkibgccgkhdmaaW.PrintLast Go.Proofs.YtlkibgccgkhdmaaW.PrintMore
attribute [local go_sem] max2_int min2_int max_two min_two max_three min_three max_four min_four
set_option linter.unusedVariables false
set_option linter.unusedSimpArgs false
theorem z0_5 {p : Prop} (h : p := by repeat (first | exact (Kd.C_below HR0_1.out z0_1) | (with_reducible refine Kd.C_alloc ?_ _) | (with_reducible refine Kd.C_drewN ?_ _) | (with_reducible refine Kd.C_drew ?_))) : p := h
theorem z0_4 {p : Prop} (h : p := by repeat (first | exact (Kd.C_below HR1_1.out z0_1) | (with_reducible refine Kd.C_alloc ?_ _) | (with_reducible refine Kd.C_drewN ?_ _) | (with_reducible refine Kd.C_drew ?_))) : p := h
theorem z0_3 {p : Prop} (h : p := by first | rfl | (simp [errW_none, errW_some] <;> rfl) | (simp [*, errW_none, errW_some] <;> rfl)) : p := h
theorem z0_2 {p : Prop} (h : p := by repeat (first | (with_reducible first | exact HB.out | apply below_alloc | apply pw_below_drewN | apply below_drew1) | exact HB.out)) : p := h
theorem z0_1 {p : Prop} (h : p := by repeat (first | (with_reducible first | exact HB.out | apply below_alloc | apply pw_below_drewN | apply below_drew1 | refine below_set ?_ b0.out | refine below_set ?_ b1.out) | exact HB.out)) : p := h
theorem z0_0 {p : Prop} (h : p := by repeat (first | (with_reducible first | exact HB.out | apply below_alloc | apply pw_below_drewN | apply below_drew1 | refine below_set ?_ b0.out) | exact HB.out)) : p := h
set_option maxHeartbeats 8000000 in
set_option maxRecDepth 100000 in
theorem laws_eqLogic.calls (k : Nat) (A0_0 : Option Addr) (c0_0 : Nat) (l0_0 : List (List Int)) (A0_1 : Option Addr) (c0_1 : Nat) (l0_1 : List Int) (A1_0 : Option Addr) (c1_0 : Nat) (l1_0 : List (List Int)) (A1_1 : Option Addr) (c1_1 : Nat) (l1_1 : List Int) (r : Bool) (w : World) (hr0_0 : Kd.C (Kd.slice 3 (Kd.int .i64)) w A0_0 l0_0.length l0_0) (hc0_0 : l0_0.length ≤ c0_0) (hr0_1 : Kd.C (Kd.int .i64) w A0_1 l0_1.length l0_1) (hc0_1 : l0_1.length ≤ c0_1) (hr1_0 : Kd.C (Kd.slice 3 (Kd.int .i64)) w A1_0 l1_0.length l1_0) (hc1_0 : l1_0.length ≤ c1_0) (hr1_1 : Kd.C (Kd.int .i64) w A1_1 l1_1.length l1_1) (hc1_1 : l1_1.length ≤ c1_1) (h : laws_eqLogic.f k l0_0 l0_1 l1_0 l1_1 = some r) :
 Calls Try.prog 19 #[.agg #[.slice A0_0 l0_0.length c0_0, .slice A0_1 l0_1.length c0_1], .agg #[.slice A1_0 l1_0.length c1_0, .slice A1_1 l1_1.length c1_1]] w fun e w' => e = .returned (.bool r) ∧ Below w.heap.size w w' := by
 have hu29 := Try.underlying29
 have HR0_0 := ak hr0_0
 have b2 := ak hc0_0
 clear hr0_0 hc0_0
 have HR0_1 := ak hr0_1
 have b4 := ak hc0_1
 clear hr0_1 hc0_1
 have HR1_0 := ak hr1_0
 have b3 := ak hc1_0
 clear hr1_0 hc1_0
 have HR1_1 := ak hr1_1
 have b5 := ak hc1_1
 clear hr1_1 hc1_1
 have HB := ak (Below.refl w.heap.size w)
 have H : ((laws_eqIntSS.f k l0_0 l1_0).bind fun b8 => (if b8 = true then ((laws_eqIntS.f k l0_1 l1_1).bind fun b9 => (if b9 = true then (some true) else (some false))) else (some false))) = some r := h
 clear h
 obtain ⟨b8, A3, H⟩ := bd_ H
 try dsimp only at H
 replace H := ox_ H
 rcases H with ⟨rfl, H⟩ | ⟨rfl, H⟩
 ·
  obtain ⟨b9, A5, H⟩ := bd_ H
  try dsimp only at H
  replace H := ox_ H
  rcases H with ⟨rfl, H⟩ | ⟨rfl, H⟩
  ·
   obtain rfl := Option.some.inj H
   go_enter Try.func19, Try.ntmps19
   go_wp2_with (first | ((with_reducible refine gate_dst (N := 2) rfl ?_); refine bx_ (N := 2) (cs := #[.slice A0_0 l0_0.length c0_0, .slice A0_1 l0_1.length c0_1]) (t := 29) ?_; intro a1 hg w7 hbox hb; have a0 := ak (hbox); have b6 := ak ((by rw [hg]; exact (below_size z0_2) : w.heap.size ≤ a1)); have b0 := ak ((by rw [hg]; exact (below_size z0_2) : w.heap.size ≤ a1)); replace HB := ak (below_step z0_2 hb); clear hb hbox hg) | ((with_reducible refine gate_dst (N := 3) rfl ?_); refine bx_ (N := 3) (cs := #[.slice A1_0 l1_0.length c1_0, .slice A1_1 l1_1.length c1_1]) (t := 29) ?_; intro a2 hg w8 hbox hb; have a3 := ak (hbox); have b7 := ak ((by rw [hg]; exact (below_size z0_0) : w.heap.size ≤ a2)); have b1 := ak ((by rw [hg]; exact (below_size z0_0) : w.heap.size ≤ a2)); replace HB := ak (below_step z0_0 hb); have a4 := ak ((by rw [hg]; exact Nat.ne_of_lt (blk_lt (g := a1) (o := .cells #[.slice A0_0 l0_0.length c0_0, .slice A0_1 l0_1.length c0_1] 29 (0, 0)) (xb a0.out)) : a1 ≠ a2)); have a5 := ak ((by rw [hg]; exact Nat.ne_of_gt (blk_lt (g := a1) (o := .cells #[.slice A0_0 l0_0.length c0_0, .slice A0_1 l0_1.length c0_1] 29 (0, 0)) (xb a0.out)) : a2 ≠ a1)); replace a0 := ak (blk_below (g := a1) (o := .cells #[.slice A0_0 l0_0.length c0_0, .slice A0_1 l0_1.length c0_1] 29 (0, 0)) (xb a0.out) hb); clear hb hbox hg; have d4 := a4.out; have d5 := a5.out; have a6 := cz20 a0.out; have a7 := cz21 a0.out; have a8 := blk_frozen a0.out 0; have a9 := blk_frozen a0.out 1; have a6 := cz20 a3.out; have a7 := cz21 a3.out; have a8 := blk_frozen a3.out 0; have a9 := blk_frozen a3.out 1) | ((with_reducible refine gate_callee (f := 54) rfl ?_); refine gl_ (some 9) Try.func54 #[.slice A0_0 l0_0.length c0_0, .slice A1_0 l1_0.length c1_0] ?_; (with_reducible refine (laws_eqIntSS.calls k _ _ l0_0 _ _ l1_0 true _ (y3 HR0_0.out HB.out) b2.out (y3 HR1_0.out HB.out) b3.out A3.out).mono ?_); rintro e w' ⟨rfl, ⟨nd, rfl⟩⟩; refine ⟨_, rfl, ?_⟩) | ((with_reducible refine gate_callee (f := 24) rfl ?_); refine gl_ (some 15) Try.func24 #[.slice A0_1 l0_1.length c0_1, .slice A1_1 l1_1.length c1_1] ?_; (with_reducible refine (laws_eqIntS.calls k _ _ l0_1 _ _ l1_1 true _ z0_5 b4.out z0_4 b5.out A5.out).mono ?_); rintro e w' ⟨rfl, ⟨nd, rfl⟩⟩; refine ⟨_, rfl, ?_⟩))
   go_ret
   exact ⟨z0_3, z0_1⟩
  obtain rfl := Option.some.inj H
  go_enter Try.func19, Try.ntmps19
  go_wp2_with (first | ((with_reducible refine gate_dst (N := 2) rfl ?_); refine bx_ (N := 2) (cs := #[.slice A0_0 l0_0.length c0_0, .slice A0_1 l0_1.length c0_1]) (t := 29) ?_; intro a1 hg d6 hbox hb; have a0 := ak (hbox); have b6 := ak ((by rw [hg]; exact (below_size z0_2) : w.heap.size ≤ a1)); have b0 := ak ((by rw [hg]; exact (below_size z0_2) : w.heap.size ≤ a1)); replace HB := ak (below_step z0_2 hb); clear hb hbox hg) | ((with_reducible refine gate_dst (N := 3) rfl ?_); refine bx_ (N := 3) (cs := #[.slice A1_0 l1_0.length c1_0, .slice A1_1 l1_1.length c1_1]) (t := 29) ?_; intro a2 hg d7 hbox hb; have a3 := ak (hbox); have b7 := ak ((by rw [hg]; exact (below_size z0_0) : w.heap.size ≤ a2)); have b1 := ak ((by rw [hg]; exact (below_size z0_0) : w.heap.size ≤ a2)); replace HB := ak (below_step z0_0 hb); have a4 := ak ((by rw [hg]; exact Nat.ne_of_lt (blk_lt (g := a1) (o := .cells #[.slice A0_0 l0_0.length c0_0, .slice A0_1 l0_1.length c0_1] 29 (0, 0)) (xb a0.out)) : a1 ≠ a2)); have a5 := ak ((by rw [hg]; exact Nat.ne_of_gt (blk_lt (g := a1) (o := .cells #[.slice A0_0 l0_0.length c0_0, .slice A0_1 l0_1.length c0_1] 29 (0, 0)) (xb a0.out)) : a2 ≠ a1)); replace a0 := ak (blk_below (g := a1) (o := .cells #[.slice A0_0 l0_0.length c0_0, .slice A0_1 l0_1.length c0_1] 29 (0, 0)) (xb a0.out) hb); clear hb hbox hg; have d0 := a4.out; have d1 := a5.out; have a6 := cz20 a0.out; have a7 := cz21 a0.out; have a8 := blk_frozen a0.out 0; have a9 := blk_frozen a0.out 1; have a6 := cz20 a3.out; have a7 := cz21 a3.out; have a8 := blk_frozen a3.out 0; have a9 := blk_frozen a3.out 1) | ((with_reducible refine gate_callee (f := 54) rfl ?_); refine gl_ (some 9) Try.func54 #[.slice A0_0 l0_0.length c0_0, .slice A1_0 l1_0.length c1_0] ?_; (with_reducible refine (laws_eqIntSS.calls k _ _ l0_0 _ _ l1_0 true _ (y3 HR0_0.out HB.out) b2.out (y3 HR1_0.out HB.out) b3.out A3.out).mono ?_); rintro e w' ⟨rfl, ⟨nd, rfl⟩⟩; refine ⟨_, rfl, ?_⟩) | ((with_reducible refine gate_callee (f := 24) rfl ?_); refine gl_ (some 15) Try.func24 #[.slice A0_1 l0_1.length c0_1, .slice A1_1 l1_1.length c1_1] ?_; (with_reducible refine (laws_eqIntS.calls k _ _ l0_1 _ _ l1_1 false _ z0_5 b4.out z0_4 b5.out A5.out).mono ?_); rintro e w' ⟨rfl, ⟨nd, rfl⟩⟩; refine ⟨_, rfl, ?_⟩))
  go_ret
  exact ⟨z0_3, z0_1⟩
 obtain rfl := Option.some.inj H
 go_enter Try.func19, Try.ntmps19
 go_wp2_with (first | ((with_reducible refine gate_dst (N := 2) rfl ?_); refine bx_ (N := 2) (cs := #[.slice A0_0 l0_0.length c0_0, .slice A0_1 l0_1.length c0_1]) (t := 29) ?_; intro a1 hg d8 hbox hb; have a0 := ak (hbox); have b6 := ak ((by rw [hg]; exact (below_size z0_2) : w.heap.size ≤ a1)); have b0 := ak ((by rw [hg]; exact (below_size z0_2) : w.heap.size ≤ a1)); replace HB := ak (below_step z0_2 hb); clear hb hbox hg) | ((with_reducible refine gate_dst (N := 3) rfl ?_); refine bx_ (N := 3) (cs := #[.slice A1_0 l1_0.length c1_0, .slice A1_1 l1_1.length c1_1]) (t := 29) ?_; intro a2 hg d9 hbox hb; have a3 := ak (hbox); have b7 := ak ((by rw [hg]; exact (below_size z0_0) : w.heap.size ≤ a2)); have b1 := ak ((by rw [hg]; exact (below_size z0_0) : w.heap.size ≤ a2)); replace HB := ak (below_step z0_0 hb); have a4 := ak ((by rw [hg]; exact Nat.ne_of_lt (blk_lt (g := a1) (o := .cells #[.slice A0_0 l0_0.length c0_0, .slice A0_1 l0_1.length c0_1] 29 (0, 0)) (xb a0.out)) : a1 ≠ a2)); have a5 := ak ((by rw [hg]; exact Nat.ne_of_gt (blk_lt (g := a1) (o := .cells #[.slice A0_0 l0_0.length c0_0, .slice A0_1 l0_1.length c0_1] 29 (0, 0)) (xb a0.out)) : a2 ≠ a1)); replace a0 := ak (blk_below (g := a1) (o := .cells #[.slice A0_0 l0_0.length c0_0, .slice A0_1 l0_1.length c0_1] 29 (0, 0)) (xb a0.out) hb); clear hb hbox hg; have d2 := a4.out; have d3 := a5.out; have a6 := cz20 a0.out; have a7 := cz21 a0.out; have a8 := blk_frozen a0.out 0; have a9 := blk_frozen a0.out 1; have a6 := cz20 a3.out; have a7 := cz21 a3.out; have a8 := blk_frozen a3.out 0; have a9 := blk_frozen a3.out 1) | ((with_reducible refine gate_callee (f := 54) rfl ?_); refine gl_ (some 9) Try.func54 #[.slice A0_0 l0_0.length c0_0, .slice A1_0 l1_0.length c1_0] ?_; (with_reducible refine (laws_eqIntSS.calls k _ _ l0_0 _ _ l1_0 false _ (y3 HR0_0.out HB.out) b2.out (y3 HR1_0.out HB.out) b3.out A3.out).mono ?_); rintro e w' ⟨rfl, ⟨nd, rfl⟩⟩; refine ⟨_, rfl, ?_⟩))
 go_ret
 exact ⟨z0_3, z0_1⟩

end Go.Proofs.Ytlkibgccgkhdmaa.P

-- written by gen.py (a program of this session) out of the kit's print of this seat's translation
namespace Go.Proofs.Ytlkibgccgkhdmaa.P
open Go.RowKit Go.Proofs.YtlkibgccgkhdmaaW.PrintWords Go.Proofs.YtlkibgccgkhdmaaW.PrintLast Go.Proofs.YtlkibgccgkhdmaaW.PrintMore
attribute [local go_sem] max2_int min2_int max_two min_two max_three min_three max_four min_four
set_option linter.unusedVariables false
set_option linter.unusedSimpArgs false
theorem z4_1 {p : Prop} (h : p := by repeat (first | exact Drawn0.refl _ | apply Drawn0.step)) : p := h
theorem z4_0 {p : Prop} (h : p := by first | rfl | (simp; done) | (simp [*]; done)) : p := h
set_option maxHeartbeats 8000000 in
set_option maxRecDepth 100000 in
theorem laws_heldIntS.calls (k : Nat) (A0 : Option Addr) (c0 : Nat) (l0 : List Int) (a1 : Int) (r : Int) (w : World) (hr0 : Kd.C (Kd.int .i64) w A0 l0.length l0) (hc0 : l0.length ≤ c0) (h : laws_heldIntS.f k l0 a1 = some r) :
 Calls Try.prog 27 #[.slice A0 l0.length c0, .int .i64 a1] w fun e w' => e = .returned (.int .i64 r) ∧ Drawn0 w w' := by
 have HR0 := ak hr0
 have a8 := ak hc0
 clear hr0 hc0
 have H : (laws_heldIntS.l0 k l0 a1 0) = some r := h
 clear h
 have H' := ak H
 clear H
 go_enter Try.func27, Try.ntmps27
 go_wp2
 go_loopg [1, 5] k (fun kq v1 v5 w' => ∃ (a2 : Int) (a0 : Int), v1 = .int .i64 a2 ∧ v5 = .int .i64 a0 ∧ Aside0 (laws_heldIntS.l0 kq l0 a2 a0 = some r) ∧ Aside0 (kq ≤ k) ∧ Drawn0 w w')
 case atStart => exact ⟨(a1), (0), z4_0, z4_0, H', ⟨Nat.le_refl _⟩, z4_1⟩
 case round =>
  clear H'
  obtain ⟨a2, a0, rfl, rfl, HA, HK1, ⟨m1, rfl⟩⟩ := hrel
  cases gk with
  | zero => exact absurd HA.out (by simp [laws_heldIntS.l0])
  | succ k1 =>
   have H := HA.out
   clear HA
   simp only [laws_heldIntS.l0] at H
   replace H := os_ H
   rcases H with ⟨a3, H⟩ | ⟨a3, H⟩
   ·
    replace H := od_ H
    obtain ⟨a7, H⟩ := H
    replace H := oe2 H
    rcases H with ⟨⟨-, a4, a5⟩, H⟩ | ⟨⟨c5, a4, a5⟩, H⟩
    ·
     have H' := ak H
     clear H
     obtain ⟨ad334, e334, hx334_0, a6, q334⟩ := ai_ HR0.out a0
     cases e334
     go_wp2
     go_roundg k1
     case measure => have := HK1.out; omega
     case rel => exact ⟨(wrap64 (a2 + 1)), (wrap64 (a0 + 1)), z4_0, z4_0, H', ⟨(by have := HK1.out; omega)⟩, z4_1⟩
    obtain rfl := Option.some.inj H
    obtain ⟨ad334, e334, hx334_0, a6, q334⟩ := ai_ HR0.out a0
    cases e334
    go_wp2
    go_ret
    exact ⟨z4_0, z4_1⟩
   obtain rfl := Option.some.inj H
   go_wp2
   go_ret
   exact ⟨z4_0, z4_1⟩

end Go.Proofs.Ytlkibgccgkhdmaa.P

-- written by gen.py (a program of this session) out of the kit's print of this seat's translation
namespace Go.Proofs.Ytlkibgccgkhdmaa.P
open Go.RowKit Go.Proofs.YtlkibgccgkhdmaaW.PrintWords Go.Proofs.YtlkibgccgkhdmaaW.PrintLast Go.Proofs.YtlkibgccgkhdmaaW.PrintMore
attribute [local go_sem] max2_int min2_int max_two min_two max_three min_three max_four min_four
set_option linter.unusedVariables false
set_option linter.unusedSimpArgs false
theorem z5_1 {p : Prop} (h : p := by repeat (first | exact Drawn0.refl _ | apply Drawn0.step)) : p := h
theorem z5_0 {p : Prop} (h : p := by first | rfl | (simp; done) | (simp [*]; done)) : p := h
set_option maxHeartbeats 8000000 in
set_option maxRecDepth 100000 in
theorem laws_heldIntSS.calls (k : Nat) (A0 : Option Addr) (c0 : Nat) (l0 : List (List Int)) (a1 : Int) (r : Int) (w : World) (hr0 : Kd.C (Kd.slice 3 (Kd.int .i64)) w A0 l0.length l0) (hc0 : l0.length ≤ c0) (h : laws_heldIntSS.f k l0 a1 = some r) :
 Calls Try.prog 77 #[.slice A0 l0.length c0, .int .i64 a1] w fun e w' => e = .returned (.int .i64 r) ∧ Drawn0 w w' := by
 have HR0 := ak hr0
 have b1 := ak hc0
 clear hr0 hc0
 have H : (laws_heldIntSS.l0 k l0 a1 0) = some r := h
 clear h
 have H' := ak H
 clear H
 go_enter Try.func77, Try.ntmps77
 go_wp2
 go_loopg [1, 5] k (fun kq v1 v5 w' => ∃ (a3 : Int) (a0 : Int), v1 = .int .i64 a3 ∧ v5 = .int .i64 a0 ∧ Aside0 (laws_heldIntSS.l0 kq l0 a3 a0 = some r) ∧ Aside0 (kq ≤ k) ∧ Drawn0 w w')
 case atStart => exact ⟨(a1), (0), z5_0, z5_0, H', ⟨Nat.le_refl _⟩, z5_1⟩
 case round =>
  clear H'
  obtain ⟨a3, a0, rfl, rfl, HA, HK1, ⟨m1, rfl⟩⟩ := hrel
  cases gk with
  | zero => exact absurd HA.out (by simp [laws_heldIntSS.l0])
  | succ k1 =>
   have H := HA.out
   clear HA
   simp only [laws_heldIntSS.l0] at H
   replace H := os_ H
   rcases H with ⟨a7, H⟩ | ⟨a7, H⟩
   ·
    replace H := od_ H
    obtain ⟨b0, H⟩ := H
    obtain ⟨a6, A5, H⟩ := bd_ H
    try dsimp only at H
    replace H := os_ H
    rcases H with ⟨a8, H⟩ | ⟨a8, H⟩
    ·
     obtain rfl := Option.some.inj H
     obtain ⟨ad485, a4, a5, e485, hx485_0, a2, HR485_0, a9, q485⟩ := al_ HR0.out a0
     cases e485
     go_wp2_with (first | ((with_reducible refine gate_callee (f := 27) rfl ?_); refine gl_ (some 17) Try.func27 #[.slice a4 (rd_L1 l0 a0).length a5, .int .i64 a3] ?_; (with_reducible refine (laws_heldIntS.calls k1 _ _ (rd_L1 l0 a0) a3 a6 _ (y4 HR485_0.out) a2.out A5.out).mono ?_); rintro e w' ⟨rfl, ⟨nd, rfl⟩⟩; refine ⟨_, rfl, ?_⟩))
     go_ret
     exact ⟨z5_0, z5_1⟩
    have H' := ak H
    clear H
    obtain ⟨ad485, a4, a5, e485, hx485_0, a2, HR485_0, a9, q485⟩ := al_ HR0.out a0
    cases e485
    go_wp2_with (first | ((with_reducible refine gate_callee (f := 27) rfl ?_); refine gl_ (some 17) Try.func27 #[.slice a4 (rd_L1 l0 a0).length a5, .int .i64 a3] ?_; (with_reducible refine (laws_heldIntS.calls k1 _ _ (rd_L1 l0 a0) a3 a6 _ (y4 HR485_0.out) a2.out A5.out).mono ?_); rintro e w' ⟨rfl, ⟨nd, rfl⟩⟩; refine ⟨_, rfl, ?_⟩))
    go_roundg k1
    case measure => have := HK1.out; omega
    case rel => exact ⟨(a6), (wrap64 (a0 + 1)), z5_0, z5_0, H', ⟨(by have := HK1.out; omega)⟩, z5_1⟩
   obtain rfl := Option.some.inj H
   go_wp2
   go_ret
   exact ⟨z5_0, z5_1⟩

end Go.Proofs.Ytlkibgccgkhdmaa.P

-- written by gen.py (a program of this session) out of the kit's print of this seat's translation
namespace Go.Proofs.Ytlkibgccgkhdmaa.P
open Go.RowKit Go.Proofs.YtlkibgccgkhdmaaW.PrintWords Go.Proofs.YtlkibgccgkhdmaaW.PrintLast Go.Proofs.YtlkibgccgkhdmaaW.PrintMore
attribute [local go_sem] max2_int min2_int max_two min_two max_three min_three max_four min_four
set_option linter.unusedVariables false
set_option linter.unusedSimpArgs false
theorem z3_3 {p : Prop} (h : p := by repeat (first | exact (Kd.C_below HR0_1.out z3_1) | (with_reducible refine Kd.C_alloc ?_ _) | (with_reducible refine Kd.C_drewN ?_ _) | (with_reducible refine Kd.C_drew ?_))) : p := h
theorem z3_2 {p : Prop} (h : p := by first | rfl | (simp [errW_none, errW_some] <;> rfl) | (simp [*, errW_none, errW_some] <;> rfl)) : p := h
theorem z3_1 {p : Prop} (h : p := by repeat (first | (with_reducible first | exact HB.out | apply below_alloc | apply pw_below_drewN | apply below_drew1 | refine below_set ?_ a4.out) | exact HB.out)) : p := h
theorem z3_0 {p : Prop} (h : p := by repeat (first | (with_reducible first | exact HB.out | apply below_alloc | apply pw_below_drewN | apply below_drew1) | exact HB.out)) : p := h
set_option maxHeartbeats 8000000 in
set_option maxRecDepth 100000 in
theorem laws_heldLogic.calls (k : Nat) (A0_0 : Option Addr) (c0_0 : Nat) (l0_0 : List (List Int)) (A0_1 : Option Addr) (c0_1 : Nat) (l0_1 : List Int) (a1 : Int) (r : Int) (w : World) (hr0_0 : Kd.C (Kd.slice 3 (Kd.int .i64)) w A0_0 l0_0.length l0_0) (hc0_0 : l0_0.length ≤ c0_0) (hr0_1 : Kd.C (Kd.int .i64) w A0_1 l0_1.length l0_1) (hc0_1 : l0_1.length ≤ c0_1) (h : laws_heldLogic.f k l0_0 l0_1 a1 = some r) :
 Calls Try.prog 36 #[.agg #[.slice A0_0 l0_0.length c0_0, .slice A0_1 l0_1.length c0_1], .int .i64 a1] w fun e w' => e = .returned (.int .i64 r) ∧ Below w.heap.size w w' := by
 have hu29 := Try.underlying29
 have HR0_0 := ak hr0_0
 have a5 := ak hc0_0
 clear hr0_0 hc0_0
 have HR0_1 := ak hr0_1
 have a7 := ak hc0_1
 clear hr0_1 hc0_1
 have HB := ak (Below.refl w.heap.size w)
 have H : ((laws_heldIntSS.f k l0_0 a1).bind fun a3 => (if a3 < 0 then (some (-1)) else ((laws_heldIntS.f k l0_1 a3).bind fun a6 => (if a6 < 0 then (some (-1)) else (some a6))))) = some r := h
 clear h
 obtain ⟨a3, A3, H⟩ := bd_ H
 try dsimp only at H
 replace H := os_ H
 rcases H with ⟨b3, H⟩ | ⟨b3, H⟩
 ·
  obtain rfl := Option.some.inj H
  go_enter Try.func36, Try.ntmps36
  go_wp2_with (first | ((with_reducible refine gate_dst (N := 2) rfl ?_); refine bx_ (N := 2) (cs := #[.slice A0_0 l0_0.length c0_0, .slice A0_1 l0_1.length c0_1]) (t := 29) ?_; intro a2 hg w5 hbox hb; have a0 := ak (hbox); have a8 := ak ((by rw [hg]; exact (below_size z3_0) : w.heap.size ≤ a2)); have a4 := ak ((by rw [hg]; exact (below_size z3_0) : w.heap.size ≤ a2)); replace HB := ak (below_step z3_0 hb); clear hb hbox hg; have a9 := cz20 a0.out; have b0 := cz21 a0.out; have b1 := blk_frozen a0.out 0; have b2 := blk_frozen a0.out 1) | ((with_reducible refine gate_callee (f := 77) rfl ?_); refine gl_ (some 8) Try.func77 #[.slice A0_0 l0_0.length c0_0, .int .i64 a1] ?_; (with_reducible refine (laws_heldIntSS.calls k _ _ l0_0 a1 a3 _ (y3 HR0_0.out HB.out) a5.out A3.out).mono ?_); rintro e w' ⟨rfl, ⟨nd, rfl⟩⟩; refine ⟨_, rfl, ?_⟩))
  go_ret
  exact ⟨z3_2, z3_1⟩
 obtain ⟨a6, A7, H⟩ := bd_ H
 try dsimp only at H
 replace H := os_ H
 rcases H with ⟨b4, H⟩ | ⟨b4, H⟩
 ·
  obtain rfl := Option.some.inj H
  go_enter Try.func36, Try.ntmps36
  go_wp2_with (first | ((with_reducible refine gate_dst (N := 2) rfl ?_); refine bx_ (N := 2) (cs := #[.slice A0_0 l0_0.length c0_0, .slice A0_1 l0_1.length c0_1]) (t := 29) ?_; intro a2 hg w9 hbox hb; have a0 := ak (hbox); have a8 := ak ((by rw [hg]; exact (below_size z3_0) : w.heap.size ≤ a2)); have a4 := ak ((by rw [hg]; exact (below_size z3_0) : w.heap.size ≤ a2)); replace HB := ak (below_step z3_0 hb); clear hb hbox hg; have a9 := cz20 a0.out; have b0 := cz21 a0.out; have b1 := blk_frozen a0.out 0; have b2 := blk_frozen a0.out 1) | ((with_reducible refine gate_callee (f := 77) rfl ?_); refine gl_ (some 8) Try.func77 #[.slice A0_0 l0_0.length c0_0, .int .i64 a1] ?_; (with_reducible refine (laws_heldIntSS.calls k _ _ l0_0 a1 a3 _ (y3 HR0_0.out HB.out) a5.out A3.out).mono ?_); rintro e w' ⟨rfl, ⟨nd, rfl⟩⟩; refine ⟨_, rfl, ?_⟩) | ((with_reducible refine gate_callee (f := 27) rfl ?_); refine gl_ (some 14) Try.func27 #[.slice A0_1 l0_1.length c0_1, .int .i64 a3] ?_; (with_reducible refine (laws_heldIntS.calls k _ _ l0_1 a3 a6 _ z3_3 a7.out A7.out).mono ?_); rintro e w' ⟨rfl, ⟨nd, rfl⟩⟩; refine ⟨_, rfl, ?_⟩))
  go_ret
  exact ⟨z3_2, z3_1⟩
 obtain rfl := Option.some.inj H
 go_enter Try.func36, Try.ntmps36
 go_wp2_with (first | ((with_reducible refine gate_dst (N := 2) rfl ?_); refine bx_ (N := 2) (cs := #[.slice A0_0 l0_0.length c0_0, .slice A0_1 l0_1.length c0_1]) (t := 29) ?_; intro a2 hg b5 hbox hb; have a0 := ak (hbox); have a8 := ak ((by rw [hg]; exact (below_size z3_0) : w.heap.size ≤ a2)); have a4 := ak ((by rw [hg]; exact (below_size z3_0) : w.heap.size ≤ a2)); replace HB := ak (below_step z3_0 hb); clear hb hbox hg; have a9 := cz20 a0.out; have b0 := cz21 a0.out; have b1 := blk_frozen a0.out 0; have b2 := blk_frozen a0.out 1) | ((with_reducible refine gate_callee (f := 77) rfl ?_); refine gl_ (some 8) Try.func77 #[.slice A0_0 l0_0.length c0_0, .int .i64 a1] ?_; (with_reducible refine (laws_heldIntSS.calls k _ _ l0_0 a1 a3 _ (y3 HR0_0.out HB.out) a5.out A3.out).mono ?_); rintro e w' ⟨rfl, ⟨nd, rfl⟩⟩; refine ⟨_, rfl, ?_⟩) | ((with_reducible refine gate_callee (f := 27) rfl ?_); refine gl_ (some 14) Try.func27 #[.slice A0_1 l0_1.length c0_1, .int .i64 a3] ?_; (with_reducible refine (laws_heldIntS.calls k _ _ l0_1 a3 a6 _ z3_3 a7.out A7.out).mono ?_); rintro e w' ⟨rfl, ⟨nd, rfl⟩⟩; refine ⟨_, rfl, ?_⟩))
 go_ret
 exact ⟨z3_2, z3_1⟩

end Go.Proofs.Ytlkibgccgkhdmaa.P

-- written by gen.py (a program of this session) out of the kit's print of this seat's translation
namespace Go.Proofs.Ytlkibgccgkhdmaa.P
open Go.RowKit Go.Proofs.YtlkibgccgkhdmaaW.PrintWords Go.Proofs.YtlkibgccgkhdmaaW.PrintLast Go.Proofs.YtlkibgccgkhdmaaW.PrintMore
attribute [local go_sem] max2_int min2_int max_two min_two max_three min_three max_four min_four
set_option linter.unusedVariables false
set_option linter.unusedSimpArgs false
theorem z7_2 {p : Prop} (h : p := by first | rfl | (simp; done) | (simp [*]; done)) : p := h
theorem z7_1 {p : Prop} (h : p := by repeat (first | (with_reducible first | exact HB.out | apply below_alloc | apply pw_below_drewN | apply below_drew1) | exact HB.out)) : p := h
theorem z7_0 {p : Prop} (h : p := by repeat (first | (with_reducible first | exact HK.out | apply Kept.alloc | apply Kept.drewN | apply Kept.drew) | exact HK.out)) : p := h
set_option maxHeartbeats 8000000 in
set_option maxRecDepth 100000 in
theorem laws_markIntS.calls (k : Nat) (P0_ : Nat → Prop) (u9000_ : Value) (l0 : List Int) (a1 : Int) (r1 : Int) (r2 : List Int) (w0 w : World) (hB : Below w0.heap.size w0 w) (ho0 : Kd.R (Kd.int .i64) 3 w w0.heap.size P0_ u9000_ l0) (h : laws_markIntS.f k l0 a1 = some (r1, r2)) :
 Calls Try.prog 26 #[u9000_, .int .i64 a1] w fun e w' => e = .returned (.int .i64 r1) ∧ Kd.R (Kd.int .i64) 3 w' w0.heap.size (fun k_ => (P0_ k_ ∨ w.heap.size ≤ k_)) u9000_ r2 ∧ Below w0.heap.size w0 w' ∧ Kept w w' (fun k_ => P0_ k_) := by
 have a8 := ak (show Kd.R (Kd.int .i64) 3 w w0.heap.size (fun k_ => (P0_ k_ ∨ w.heap.size ≤ k_)) u9000_ l0 from Kd.R_mono ho0 (fun k_ hk => (.inl hk)))
 have HK := ak (Kept.refl w (fun k_ => P0_ k_))
 have HW0 := ak hB.size
 have HB := ak hB
 clear hB
 have H : (laws_markIntS.l0 k l0 a1 0) = some (r1, r2) := h
 clear h
 have H' := ak H
 clear H
 go_enter Try.func26, Try.ntmps26
 go_wp2
 go_loopg [1, 5] k (fun kq v1 v5 w' => ∃ (a4 : List Int) (a3 : Int) (a0 : Int), v1 = .int .i64 a3 ∧ v5 = .int .i64 a0 ∧ Aside0 (laws_markIntS.l0 kq a4 a3 a0 = some (r1, r2)) ∧ Aside0 (kq ≤ k) ∧ Aside0 (Kd.R (Kd.int .i64) 3 w' w0.heap.size (fun k_ => (P0_ k_ ∨ w.heap.size ≤ k_)) u9000_ a4) ∧ Aside0 (Kept w w' (fun k_ => P0_ k_)) ∧ Aside0 (Below w0.heap.size w0 w'))
 case atStart => exact ⟨(l0), (a1), (0), z7_2, z7_2, H', ⟨Nat.le_refl _⟩, ⟨(xR a8.out)⟩, ⟨z7_0⟩, ⟨z7_1⟩⟩
 case round =>
  clear H'
  obtain ⟨a4, a3, a0, rfl, rfl, HA, HK1, a2, HK, HB⟩ := hrel
  cases gk with
  | zero => exact absurd HA.out (by simp [laws_markIntS.l0])
  | succ k1 =>
   have H := HA.out
   clear HA
   simp only [laws_markIntS.l0] at H
   replace H := os_ H
   rcases H with ⟨a5, H⟩ | ⟨a5, H⟩
   ·
    replace H := od_ H
    obtain ⟨a9, H⟩ := H
    obtain ⟨y331, hy331⟩ : ∃ y_ : List Int, y_ = (a4.set (a0 : Int).toNat a3) := ⟨_, rfl⟩
    replace H : (laws_markIntS.l0 k1 y331 (wrap64 (a3 + 1)) (wrap64 (a0 + 1))) = some (r1, r2) := by first | (rw [hy331]; with_reducible exact H) | (have H2_ := (Option.bind_some _ _).symm.trans H; rw [hy331]; with_reducible exact H2_) | (have H2_ := (Option.bind_some _ _).symm.trans H; with_reducible exact H2_) | with_reducible exact H | (rw [hy331]; exact H) | exact H
    have Ny331 := ak hy331
    clear hy331
    have H' := ak H
    clear H
    obtain ⟨b3, b0, b1⟩ := Kd.R_slice a2.out
    subst b1
    have p5 : 0 ≤ (a0 : Int) := oa_
    have q5 : (a0 : Int) < ((a4.length : Int) : Int) := oa_
    obtain ⟨go5, b4, a6, a7, gl5, cl5, HG5⟩ := Kd.R_form a2.out (by omega)
    (first | cases a6 | (injection a6 with ea_ en_ ec_; (first | subst ea_ | (injection ea_ with ea_; subst ea_)); subst ec_; clear en_))
    have GB5 := ak a7
    have GG5 := ak HG5
    clear a7 gl5 HG5
    have HMgo5 := ak (show (P0_ go5 ∨ w.heap.size ≤ go5) from (a2.out.1 _ rfl))
    obtain ⟨hx5_0, hf5_0⟩ := Kd.R_celln 0 a2.out (a0 : Int) p5 q5
    replace p5 := eq_true p5
    replace q5 := eq_true q5
    have HP7 := Kd.R_putg a2.out (a0 : Int) a3
    go_wp2_with (first | ((with_reducible refine gate_store (t := 3) (p := 15) rfl ?_); refine store_event (t := 3) (p := 15) (v := ?vo_w8) (w1 := (wr.setCell ⟨go5, (a0 : Int).toNat, none⟩ (.int .i64 a3))) ?hg ?ho ?hn ?hr ?_; (case ho => rfl); (case hg => rfl); (case hn => rfl); (case hr => first | (go_simp; done) | (go_simp; rfl)); intro w8 hw; have hg : wr.grownBy w8 (some go5) := (by rw [hw]; exact HP7.2); have hp_ : Kd.R (Kd.int .i64) 3 w8 w0.heap.size (fun k_ => (P0_ k_ ∨ w.heap.size ≤ k_)) (.slice (some ⟨go5, 0, none⟩) a4.length b0) y331 := (by rw [hw, Ny331.out]; exact HP7.1); clear HP7; replace HB := ak ((by rw [hw]; exact below_set (HB.out) GB5.out : Below w0.heap.size w0 w8)); replace HK := ak (Kept.of_grown (S := (fun k_ => P0_ k_)) hg z7_0 (fun k_ e_ => (a2.out.1 k_ e_))); replace a2 := ak (hp_); clear hg hw hp_))
    go_roundg k1
    case measure => have := HK1.out; omega
    case rel => exact ⟨(y331), (wrap64 (a3 + 1)), (wrap64 (a0 + 1)), z7_2, z7_2, H', ⟨(by have := HK1.out; omega)⟩, ⟨(xR a2.out)⟩, ⟨z7_0⟩, ⟨z7_1⟩⟩
   simp only [Option.some.injEq, Prod.mk.injEq] at H
   obtain ⟨rfl, rfl⟩ := H
   obtain ⟨b5, b6, b2⟩ := Kd.R_slice a2.out
   subst b2
   go_wp2
   go_ret
   exact ⟨(by first | rfl | (simp [errW_none, errW_some] <;> rfl) | (simp [*, errW_none, errW_some] <;> rfl)), (xR a2.out), z7_1, z7_0⟩

end Go.Proofs.Ytlkibgccgkhdmaa.P
