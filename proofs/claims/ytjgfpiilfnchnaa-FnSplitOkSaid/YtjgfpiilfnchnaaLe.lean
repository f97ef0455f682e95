import Derived.Test.YtjgfpiilfnchnaaPk5
namespace Go.Proofs.Ytjgfpiilfnchnaa.Q
open Go.RowKit Go.Proofs.YtjgfpiilfnchnaaW.PrintWords Go.Proofs.YtjgfpiilfnchnaaW.PrintLast Go.Proofs.YtjgfpiilfnchnaaW.PrintMore Go.Proofs.Ytjgfpiilfnchnaa.P Go.Proofs.Cl
set_option linter.unusedVariables false
section
variable {u : List (List Int)} {nt : List Int}
def kp (u : List (List Int)) (nt : List Int) (a b : Nat) : Bool := decide (rdN u a b = 0 ∨ jn u a (mt u b (rd nt a)) = b)
def wp_ (u : List (List Int)) (nt : List Int) (a b : Nat) : Bool := decide (withB u nt a b → withB u nt b a)
theorem kp_l1 (h : OL u nt) {a : Nat} (ha : a < u.length) {r : Bool} (H : Ev (fun k => spec_KeepsOk.l0 k ((a + 1 : Nat) : Int) u nt) r) (b : Nat) (hb : b ≤ u.length) :
    Ev (fun k => spec_KeepsOk.l1 k a b u nt) (allF u.length (kp u nt a) b && r) := by
  have h12 := h.1.1.le12
  have hl := h.2.1
  refine down u.length (fun b => Ev (fun k => spec_KeepsOk.l1 k a b u nt) (allF u.length (kp u nt a) b && r)) ?_ ?_ b hb
  · refine Ev.step (fun k => spec_KeepsOk.l1.eq_2 ..) ?_
    refine Ev.neg (by omega) ?_
    rw [wrap_succ a (by omega), allF_end (Nat.le_refl _), Bool.true_and]
    exact H
  · intro b hb ih
    have hra : (rd_L1 u (a : Int)).length = u.length := row_len h.1.1 ha
    have ia : 0 ≤ (a : Int) ∧ (a : Int) < u.length := by omega
    have ib : 0 ≤ (b : Int) ∧ (b : Int) < u.length := by omega
    have hn := ng_inL h ia
    refine Ev.step (fun k => spec_KeepsOk.l1.eq_2 ..) ?_
    repeat (refine Ev.pos (by omega) ?_)
    rw [at_nat, wrap_succ b (by omega)]
    have hbit := h.1.1.bit (a := a) (b := b) ha hb
    by_cases k1 : rdN u a b = 1
    · refine Ev.pos k1 ?_
      repeat (refine Ev.pos (by omega) ?_)
      refine Ev.bind (mt_ev h.1 ib hn) (Ev.bind (jn_ev h.1 ia (mt_inL h.1 ib hn)) ?_)
      rw [allF_step hb]
      by_cases k2 : jn u a (mt u b (rd nt a)) = b
      · refine Ev.pos k2 ?_
        have : kp u nt a b = true := decide_eq_true (Or.inr k2)
        rw [this, Bool.true_and]
        exact ih
      · refine Ev.neg k2 (Ev.ret ?_)
        have : kp u nt a b = false := decide_eq_false (fun q => q.elim (fun q => by omega) k2)
        rw [this, Bool.false_and, Bool.false_and]
    · refine Ev.neg k1 ?_
      have : kp u nt a b = true := decide_eq_true (Or.inl (by omega))
      rw [allF_step hb, this, Bool.true_and]
      exact ih
theorem kp_l0 (h : OL u nt) (a : Nat) (ha : a ≤ u.length) : Ev (fun k => spec_KeepsOk.l0 k a u nt) (allF u.length (fun a => allF u.length (kp u nt a) 0) a) := by
  have h12 := h.1.1.le12
  have hl := h.2.1
  have hL : logicF u nt = true := decide_eq_true h
  refine down u.length (fun a => Ev (fun k => spec_KeepsOk.l0 k a u nt) (allF u.length (fun a => allF u.length (kp u nt a) 0) a)) ?_ ?_ a ha
  · refine Ev.step (fun k => spec_KeepsOk.l0.eq_2 ..) ?_
    refine Ev.neg (by omega) ?_
    refine Ev.step (fun k => spec_KeepsOk.j1.eq_2 ..) (Ev.ff rfl (Ev.bind (spec_logic_ev u nt) (Ev.ret ?_)))
    rw [hL, allF_end (Nat.le_refl _)]
  · intro a ha ih
    refine Ev.step (fun k => spec_KeepsOk.l0.eq_2 ..) ?_
    refine Ev.pos (by omega) (Ev.bind (spec_logic_ev u nt) ?_)
    refine Ev.step (fun k => spec_KeepsOk.j1.eq_2 ..) (Ev.tt hL ?_)
    rw [allF_step ha]
    exact kp_l1 h ha ih 0 (Nat.zero_le _)
theorem wp_l1 (h : OL u nt) {a : Nat} (ha : a < u.length) {r : Bool} (H : Ev (fun k => spec_BothWaysOk.l0 k ((a + 1 : Nat) : Int) u nt) r) (b : Nat) (hb : b ≤ u.length) :
    Ev (fun k => spec_BothWaysOk.l1 k a b u nt) (allF u.length (wp_ u nt a) b && r) := by
  have h12 := h.1.1.le12
  have hl := h.2.1
  refine down u.length (fun b => Ev (fun k => spec_BothWaysOk.l1 k a b u nt) (allF u.length (wp_ u nt a) b && r)) ?_ ?_ b hb
  · refine Ev.step (fun k => spec_BothWaysOk.l1.eq_2 ..) ?_
    refine Ev.neg (by omega) ?_
    rw [wrap_succ a (by omega), allF_end (Nat.le_refl _), Bool.true_and]
    exact H
  · intro b hb ih
    have ia : 0 ≤ (a : Int) ∧ (a : Int) < u.length := by omega
    have ib : 0 ≤ (b : Int) ∧ (b : Int) < u.length := by omega
    refine Ev.step (fun k => spec_BothWaysOk.l1.eq_2 ..) ?_
    refine Ev.pos (by omega) (Ev.bind (l5_ev h ia ib) ?_)
    rw [wrap_succ b (by omega), allF_step hb]
    by_cases k1 : withB u nt a b
    · refine Ev.tt (decide_eq_true k1) (Ev.bind (l5_ev h ib ia) ?_)
      by_cases k2 : withB u nt b a
      · have : wp_ u nt a b = true := decide_eq_true (fun _ => k2)
        rw [this, Bool.true_and]
        exact Ev.tt (decide_eq_true k2) ih
      · have : wp_ u nt a b = false := decide_eq_false (fun q => k2 (q k1))
        rw [this, Bool.false_and, Bool.false_and]
        exact Ev.ff (decide_eq_false k2) (Ev.ret rfl)
    · have : wp_ u nt a b = true := decide_eq_true (fun q => absurd q k1)
      rw [this, Bool.true_and]
      exact Ev.ff (decide_eq_false k1) ih
theorem wp_l0 (h : OL u nt) (a : Nat) (ha : a ≤ u.length) : Ev (fun k => spec_BothWaysOk.l0 k a u nt) (allF u.length (fun a => allF u.length (wp_ u nt a) 0) a) := by
  have h12 := h.1.1.le12
  have hl := h.2.1
  have hL : logicF u nt = true := decide_eq_true h
  refine down u.length (fun a => Ev (fun k => spec_BothWaysOk.l0 k a u nt) (allF u.length (fun a => allF u.length (wp_ u nt a) 0) a)) ?_ ?_ a ha
  · refine Ev.step (fun k => spec_BothWaysOk.l0.eq_2 ..) ?_
    refine Ev.neg (by omega) ?_
    refine Ev.step (fun k => spec_BothWaysOk.j1.eq_2 ..) (Ev.ff rfl (Ev.bind (spec_logic_ev u nt) (Ev.ret ?_)))
    rw [hL, allF_end (Nat.le_refl _)]
  · intro a ha ih
    refine Ev.step (fun k => spec_BothWaysOk.l0.eq_2 ..) ?_
    refine Ev.pos (by omega) (Ev.bind (spec_logic_ev u nt) ?_)
    refine Ev.step (fun k => spec_BothWaysOk.j1.eq_2 ..) (Ev.tt hL ?_)
    rw [allF_step ha]
    exact wp_l1 h ha ih 0 (Nat.zero_le _)
end
theorem keeps_ev (u : List (List Int)) (nt : List Int) : Ev (fun k => spec_KeepsOk.f k u nt) (keepsF u nt) := by
  unfold spec_KeepsOk.f
  by_cases h : OL u nt
  · refine Ev.to (kp_l0 h 0 (Nat.zero_le _)) ?_
    unfold keepsF
    rw [Bool.eq_iff_iff, allF0, decide_eq_true_iff]
    constructor
    · intro q
      exact ⟨h, fun a ha b hb => of_decide_eq_true (allF0.1 (q a ha) b hb)⟩
    · rintro ⟨_, q⟩ a ha
      exact allF0.2 (fun b hb => decide_eq_true (q a ha b hb))
  · have hL : logicF u nt = false := decide_eq_false h
    have hK : keepsF u nt = false := decide_eq_false (fun q => h q.1)
    rw [hK]
    refine Ev.step (fun k => spec_KeepsOk.l0.eq_2 ..) ?_
    by_cases k : (0 : Int) < nt.length
    · refine Ev.pos k (Ev.bind (spec_logic_ev u nt) ?_)
      exact Ev.step (fun k => spec_KeepsOk.j1.eq_2 ..) (Ev.ff hL (Ev.bind (spec_logic_ev u nt) (Ev.ret hL)))
    · refine Ev.neg k ?_
      exact Ev.step (fun k => spec_KeepsOk.j1.eq_2 ..) (Ev.ff rfl (Ev.bind (spec_logic_ev u nt) (Ev.ret hL)))
theorem ways_ev (u : List (List Int)) (nt : List Int) : Ev (fun k => spec_BothWaysOk.f k u nt) (waysF u nt) := by
  unfold spec_BothWaysOk.f
  by_cases h : OL u nt
  · refine Ev.to (wp_l0 h 0 (Nat.zero_le _)) ?_
    unfold waysF
    rw [Bool.eq_iff_iff, allF0, decide_eq_true_iff]
    constructor
    · intro q
      exact ⟨h, fun a ha b hb => of_decide_eq_true (allF0.1 (q a ha) b hb)⟩
    · rintro ⟨_, q⟩ a ha
      exact allF0.2 (fun b hb => decide_eq_true (q a ha b hb))
  · have hL : logicF u nt = false := decide_eq_false h
    have hK : waysF u nt = false := decide_eq_false (fun q => h q.1)
    rw [hK]
    refine Ev.step (fun k => spec_BothWaysOk.l0.eq_2 ..) ?_
    by_cases k : (0 : Int) < nt.length
    · refine Ev.pos k (Ev.bind (spec_logic_ev u nt) ?_)
      exact Ev.step (fun k => spec_BothWaysOk.j1.eq_2 ..) (Ev.ff hL (Ev.bind (spec_logic_ev u nt) (Ev.ret hL)))
    · refine Ev.neg k ?_
      exact Ev.step (fun k => spec_BothWaysOk.j1.eq_2 ..) (Ev.ff rfl (Ev.bind (spec_logic_ev u nt) (Ev.ret hL)))
end Go.Proofs.Ytjgfpiilfnchnaa.Q

