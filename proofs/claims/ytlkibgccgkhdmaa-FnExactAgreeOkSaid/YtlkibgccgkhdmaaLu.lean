import Derived.Test.YtlkibgccgkhdmaaPk6
namespace Go.Proofs.Ytlkibgccgkhdmaa.Q
open Go.RowKit Go.Proofs.YtlkibgccgkhdmaaW.PrintWords Go.Proofs.YtlkibgccgkhdmaaW.PrintLast Go.Proofs.YtlkibgccgkhdmaaW.PrintMore Go.Proofs.Ytlkibgccgkhdmaa.P Go.Proofs.Cl
set_option linter.unusedVariables false
section
variable {u : List (List Int)} {nt : List Int}
def agN (u : List (List Int)) (nt : List Int) (i j a : Nat) : Nat := mkN (fun b => decide ((a < i ∨ a = i ∧ b < j) ∧ agP u nt a b)) u.length
def agX (u : List (List Int)) (nt : List Int) (i j : Nat) : List Int := (List.range u.length).map fun a => (agN u nt i j a : Int)
theorem agX_len (i j : Nat) : (agX u nt i j).length = u.length := by simp [agX]
theorem agX_rd {i j a : Nat} (ha : a < u.length) : rd (agX u nt i j) (a : Int) = (agN u nt i j a : Int) := by
  rw [rd_nat]
  exact getD_map_range _ _ ha
theorem mkN_congr {n : Nat} {p q : Nat → Bool} (h : ∀ b, b < n → p b = q b) : mkN p n = mkN q n :=
  set_ext (mkN_lt _ _) (mkN_lt _ _) (fun a ha => by rw [mkN_bit, mkN_bit, h a ha])
theorem agX_zero : agX u nt 0 0 = List.replicate u.length 0 := by
  unfold agX
  rw [List.eq_replicate_iff]
  refine ⟨by simp, fun x hx => ?_⟩
  obtain ⟨a, ha, rfl⟩ := List.mem_map.1 hx
  have : agN u nt 0 0 a = mkN (fun _ => false) u.length := mkN_congr (fun b hb => decide_eq_false (fun q => by omega))
  rw [this]
  have e : mkN (fun _ => false) u.length = 0 := set_ext (mkN_lt _ _) (Nat.two_pow_pos _) (fun c hc => by rw [mkN_bit]; simp)
  rw [e]
  rfl
theorem agX_row (i : Nat) : agX u nt i u.length = agX u nt (i + 1) 0 := by
  unfold agX
  refine List.map_congr_left (fun a ha => ?_)
  have ha := List.mem_range.1 ha
  rw [show agN u nt i u.length a = agN u nt (i + 1) 0 a from mkN_congr (fun b hb => by rw [decide_eq_decide]; constructor <;> (rintro ⟨q, r⟩; exact ⟨by omega, r⟩))]
theorem agX_no {i j : Nat} (h : ¬ agP u nt i j) : agX u nt i j = agX u nt i (j + 1) := by
  unfold agX
  refine List.map_congr_left (fun a ha => ?_)
  rw [show agN u nt i j a = agN u nt i (j + 1) a from mkN_congr (fun b hb => by
    rw [decide_eq_decide]
    constructor
    · rintro ⟨q, r⟩
      exact ⟨by omega, r⟩
    · rintro ⟨q, r⟩
      refine ⟨?_, r⟩
      by_cases e : a = i ∧ b = j
      · obtain ⟨rfl, rfl⟩ := e
        exact absurd r h
      · omega)]
theorem agX_yes {i j : Nat} (hi : i < u.length) (hj : j < u.length) (h : agP u nt i j) : (agX u nt i j).set i (((agN u nt i j i ||| 2 ^ j : Nat)) : Int) = agX u nt i (j + 1) := by
  refine List.ext_getElem (by simp [agX]) (fun a h1 h2 => ?_)
  have ha : a < u.length := by simpa [agX] using h2
  rw [List.getElem_set]
  have e2 : (agX u nt i (j + 1))[a] = (agN u nt i (j + 1) a : Int) := by simp [agX]
  have e1 : (agX u nt i j)[a]'(by simpa [agX] using ha) = (agN u nt i j a : Int) := by simp [agX]
  rw [e2]
  split
  · rename_i e
    subst e
    have : agN u nt i j i ||| 2 ^ j = agN u nt i (j + 1) i := by
      refine set_ext (Nat.or_lt_two_pow (mkN_lt _ _) (pow_in hj)) (mkN_lt _ _) (fun b hb => ?_)
      unfold agN
      rw [Nat.testBit_or, mkN_bit, mkN_bit, bit_pow, Bool.eq_iff_iff, Bool.or_eq_true_iff]
      simp only [Bool.and_eq_true, decide_eq_true_iff]
      constructor
      · rintro (⟨q, r, s⟩ | rfl)
        · exact ⟨q, r.elim Or.inl (fun r => .inr ⟨r.1, Nat.lt_succ_of_lt r.2⟩), s⟩
        · exact ⟨hb, by first | exact .inr ⟨rfl, Nat.lt_succ_self _⟩ | exact .inr ⟨trivial, Nat.lt_succ_self _⟩, h⟩
      · rintro ⟨q, r, s⟩
        by_cases e : b = j
        · exact .inr e.symm
        · exact .inl ⟨q, r.elim Or.inl (fun r => .inr ⟨r.1, by have := r.2; omega⟩), s⟩
    rw [this]
  · rename_i e
    rw [e1]
    rw [show agN u nt i j a = agN u nt i (j + 1) a from mkN_congr (fun b hb => by rw [decide_eq_decide]; constructor <;> (rintro ⟨q, r⟩; exact ⟨by omega, r⟩))]
def agL (u : List (List Int)) (nt : List Int) : List Int := agX u nt u.length 0
theorem agL_rd {a : Nat} (ha : a < u.length) : rd (agL u nt) (a : Int) = (mkN (fun b => decide (agP u nt a b)) u.length : Int) := by
  unfold agL
  rw [agX_rd ha]
  rw [show agN u nt u.length 0 a = mkN (fun b => decide (agP u nt a b)) u.length from mkN_congr (fun b hb => by rw [decide_eq_decide]; exact ⟨fun q => q.2, fun q => ⟨.inl ha, q⟩⟩)]
def comN (u : List (List Int)) (nt : List Int) (S i : Nat) : Nat := mkN (fun b => decide (∀ a, a < i → S.testBit a = true → agP u nt a b)) u.length
theorem full_bit (n a : Nat) : (2 ^ n - 1).testBit a = decide (a < n) := Nat.testBit_two_pow_sub_one n a
theorem comN_zero (S : Nat) : comN u nt S 0 = 2 ^ u.length - 1 := by
  have := Nat.two_pow_pos u.length
  refine set_ext (mkN_lt _ _) (by omega) (fun a ha => ?_)
  unfold comN
  rw [mkN_bit, full_bit]
  simp [ha]
theorem and_set {n x y : Nat} (hn : n ≤ 12) (hx : x < 2 ^ n) (hy : y < 2 ^ n) : Go.bits .and .i64 (x : Int) (y : Int) = ((x &&& y : Nat) : Int) := by
  have := pow_le12 hn
  exact (bits_small .and x y (by rw [pow62']; omega) (by rw [pow62']; omega)).2.1
theorem com_l0 (h : OL u nt) {S : Nat} (hS : S < 2 ^ u.length) (i : Nat) (hi : i ≤ u.length) : Ev (fun k => impl_common.l0 k S (comN u nt S i) (agL u nt) (u.length : Int) i) (comN u nt S u.length : Int) := by
  have h12 := h.1.1.le12
  have hl : (agL u nt).length = u.length := agX_len _ _
  refine down u.length (fun i => Ev (fun k => impl_common.l0 k S (comN u nt S i) (agL u nt) (u.length : Int) i) (comN u nt S u.length : Int)) ?_ ?_ i hi
  · refine Ev.step (fun k => impl_common.l0.eq_2 ..) ?_
    exact Ev.neg (by omega) (Ev.ret rfl)
  · intro i hi ih
    refine Ev.step (fun k => impl_common.l0.eq_2 ..) ?_
    refine Ev.pos (by omega) (Ev.pos (by omega) (Ev.pos (by omega) ?_))
    refine Ev.bindc (has_eq h12 hS hi) ?_
    rw [wrap_succ i (by omega)]
    cases k : S.testBit i with
    | true =>
      refine Ev.tt rfl ?_
      rw [agL_rd hi, and_set (x := comN u nt S i) h12 (mkN_lt _ _) (mkN_lt _ _)]
      have e : comN u nt S i &&& mkN (fun b => decide (agP u nt i b)) u.length = comN u nt S (i + 1) := by
        refine set_ext (Nat.and_lt_two_pow _ (mkN_lt _ _)) (mkN_lt _ _) (fun b hb => ?_)
        unfold comN
        rw [Nat.testBit_and, mkN_bit, mkN_bit, mkN_bit, Bool.eq_iff_iff]
        simp only [Bool.and_eq_true, decide_eq_true_iff]
        constructor
        · rintro ⟨⟨_, q⟩, _, r⟩
          refine ⟨hb, fun a ha ka => ?_⟩
          by_cases e : a = i
          · subst e; exact r
          · exact q a (by omega) ka
        · rintro ⟨_, q⟩
          exact ⟨⟨hb, fun a ha ka => q a (by omega) ka⟩, hb, q i (by omega) k⟩
      rw [e]
      exact ih
    | false =>
      refine Ev.ff rfl ?_
      have e : comN u nt S i = comN u nt S (i + 1) := mkN_congr (fun b hb => by
        rw [decide_eq_decide]
        constructor
        · intro q a ha ka
          by_cases e : a = i
          · subst e; rw [k] at ka; cases ka
          · exact q a (by omega) ka
        · exact fun q a ha ka => q a (by omega) ka)
      rw [e]
      exact ih
theorem common_ev (h : OL u nt) {S : Nat} (hS : S < 2 ^ u.length) : Ev (fun k => impl_common.f k (agL u nt) S) (comN u nt S u.length : Int) := by
  have h12 := h.1.1.le12
  have hl : (agL u nt).length = u.length := agX_len _ _
  have hp := pow_le12 h12
  have hq := Nat.two_pow_pos u.length
  unfold impl_common.f
  rw [hl, shl_set h12]
  have e : wrap64 (((2 ^ u.length : Nat) : Int) - 1) = (comN u nt S 0 : Int) := by
    rw [comN_zero]
    generalize 2 ^ u.length = p at hp hq ⊢
    rw [wrap_of _ (by omega) (by omega)]
    omega
  rw [e]
  exact com_l0 h hS 0 (Nat.zero_le _)
theorem andNot_set {n x y : Nat} (hn : n ≤ 12) (hx : x < 2 ^ n) (hy : y < 2 ^ n) : (Go.bits .andNot .i64 (x : Int) (y : Int) == 0) = decide (SubS n x y) := by
  have hp := pow_le12 hn
  have e64 : IntKind.i64.bits = 64 := rfl
  have hx' : x % 2 ^ 64 = x := Nat.mod_eq_of_lt (by omega)
  have hy' : y % 2 ^ 64 = y := Nat.mod_eq_of_lt (by omega)
  have key : (BitVec.ofNat 64 x &&& ~~~(BitVec.ofNat 64 y)).toNat = mkN (fun a => x.testBit a && !y.testBit a) n := by
    refine Nat.eq_of_testBit_eq (fun a => ?_)
    rw [mkN_bit, BitVec.testBit_toNat, BitVec.getLsbD_and, BitVec.getLsbD_not, BitVec.getLsbD_ofNat, BitVec.getLsbD_ofNat]
    by_cases l : a < n
    · have : a < 64 := by omega
      simp [l, this]
    · have hx0 : x.testBit a = false := Nat.testBit_lt_two_pow (Nat.lt_of_lt_of_le hx (Nat.pow_le_pow_right (by decide) (by omega)))
      simp [l, hx0]
  have hb : Go.bits .andNot .i64 (x : Int) (y : Int) = ((mkN (fun a => x.testBit a && !y.testBit a) n : Nat) : Int) := by
    have hlt := mkN_lt (fun a => x.testBit a && !y.testBit a) n
    have e : Go.bits .andNot .i64 (x : Int) (y : Int) = IntKind.i64.wrap ((BitVec.ofNat 64 x &&& ~~~(BitVec.ofNat 64 y)).toNat : Int) := by
      simp only [Go.bits, BitVec.ofInt_natCast]
      rfl
    rw [e, key]
    exact wrap_small _ (by omega)
  rw [hb, Bool.eq_iff_iff, beq_iff_eq, decide_eq_true_iff]
  constructor
  · intro q a ha ka
    have q2 : mkN (fun a => x.testBit a && !y.testBit a) n = 0 := by omega
    have := mkN_bit (fun a => x.testBit a && !y.testBit a) n a
    rw [q2, Nat.zero_testBit, ka, decide_eq_true ha] at this
    simpa using this.symm
  · intro q
    have : mkN (fun a => x.testBit a && !y.testBit a) n = 0 := set_ext (mkN_lt _ _) (Nat.two_pow_pos _) (fun a ha => by
      rw [mkN_bit, Nat.zero_testBit]
      cases k : x.testBit a with
      | false => simp [ha]
      | true => simp [q a ha k])
    rw [this]
    rfl
theorem agree_eq (h : OL u nt) {S : Nat} (hS : S < 2 ^ u.length) (hp : isSetB u.length (S : Int) = true) : agreeF u nt (S : Int) = (Go.bits .andNot .i64 (S : Int) (comN u nt S u.length : Int) == 0) := by
  rw [andNot_set (y := comN u nt S u.length) h.1.1.le12 hS (mkN_lt _ _)]
  unfold agreeF
  rw [decide_eq_decide, Int.toNat_natCast]
  constructor
  · rintro ⟨_, _, q⟩ b hb kb
    unfold comN
    rw [mkN_bit]
    simp only [Bool.and_eq_true, decide_eq_true_iff]
    exact ⟨hb, fun a ha ka => q a ha ka b hb kb⟩
  · intro q
    refine ⟨h, hp, fun a ha ka b hb kb => ?_⟩
    have := q b hb kb
    unfold comN at this
    rw [mkN_bit] at this
    simp only [Bool.and_eq_true, decide_eq_true_iff] at this
    exact this.2 a ha ka
end
end Go.Proofs.Ytlkibgccgkhdmaa.Q

