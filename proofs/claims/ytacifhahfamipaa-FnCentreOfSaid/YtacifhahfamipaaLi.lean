import Derived.Test.YtacifhahfamipaaPk5
import Derived.Test.YtacifhahfamipaaPk2
namespace Go.Proofs.Ytacifhahfamipaa.Q
open Go.RowKit Go.Proofs.YtacifhahfamipaaW.PrintWords Go.Proofs.YtacifhahfamipaaW.PrintLast Go.Proofs.YtacifhahfamipaaW.PrintMore Go.Proofs.Ytacifhahfamipaa.P Go.Proofs.Cl
set_option linter.unusedVariables false
theorem castL_append (a b : List Nat) : castL (a ++ b) = castL a ++ castL b := by simp [castL]
theorem castL_len (a : List Nat) : (castL a).length = a.length := by simp [castL]
theorem filter_range_succ (p : Nat → Bool) (a : Nat) : castL ((List.range (a + 1)).filter p) = if p a = true then castL ((List.range a).filter p) ++ [(a : Int)] else castL ((List.range a).filter p) := by
  rw [List.range_succ, List.filter_append, castL_append]
  by_cases h : p a = true
  · rw [if_pos h]
    simp [h, castL]
  · rw [if_neg h]
    simp [h, castL]
theorem filter_range_le (p : Nat → Bool) (a : Nat) : (castL ((List.range a).filter p)).length ≤ a := by
  rw [castL_len]
  refine Nat.le_trans (List.length_filter_le _ _) ?_
  rw [List.length_range]
  exact Nat.le_refl _
section
variable {u : List (List Int)} {nt : List Int}
def cp (u : List (List Int)) (nt : List Int) (a b : Nat) : Bool := decide (withB u nt a b ∧ withB u nt b a)
theorem ct_l1 (h : OL u nt) {a : Nat} (ha : a < u.length) {acc : List Int} (hacc : acc.length ≤ a) {r : List Int} (b : Nat) (hb : b ≤ u.length) :
    ∀ x : Bool, Ev (fun k => spec_CentreOf.l0 k (if (x && allF u.length (cp u nt a) b) = true then acc ++ [(a : Int)] else acc) ((a + 1 : Nat) : Int) u nt) r → Ev (fun k => spec_CentreOf.l1 k acc a x b u nt) r := by
  have h12 := h.1.1.le12
  have hl := h.2.1
  refine down u.length (fun b => ∀ x : Bool, Ev (fun k => spec_CentreOf.l0 k (if (x && allF u.length (cp u nt a) b) = true then acc ++ [(a : Int)] else acc) ((a + 1 : Nat) : Int) u nt) r → Ev (fun k => spec_CentreOf.l1 k acc a x b u nt) r) ?_ ?_ b hb
  · intro x H
    rw [allF_end (Nat.le_refl _), Bool.and_true] at H
    refine Ev.step (fun k => spec_CentreOf.l1.eq_2 ..) ?_
    refine Ev.neg (by omega) ?_
    rw [wrap_succ a (by omega)]
    cases x with
    | true => exact Ev.pos rfl (Ev.pos (by omega) H)
    | false => exact Ev.ff rfl H
  · intro b hb ih x H
    have ia : 0 ≤ (a : Int) ∧ (a : Int) < u.length := by omega
    have ib : 0 ≤ (b : Int) ∧ (b : Int) < u.length := by omega
    refine Ev.step (fun k => spec_CentreOf.l1.eq_2 ..) ?_
    refine Ev.pos (by omega) ?_
    rw [wrap_succ b (by omega)]
    rw [allF_step hb] at H
    cases x with
    | false => exact Ev.ff rfl (ih false (by simpa using H))
    | true =>
      refine Ev.pos rfl (Ev.bind (l5_ev h ia ib) ?_)
      by_cases k1 : withB u nt a b
      · refine Ev.tt (decide_eq_true k1) (Ev.bind (l5_ev h ib ia) ?_)
        refine ih _ ?_
        have e : cp u nt a b = decide (withB u nt b a) := by unfold cp; rw [Bool.eq_iff_iff]; simp [k1]
        rw [e, Bool.true_and] at H
        exact H
      · refine Ev.ff (decide_eq_false k1) (ih false ?_)
        have e : cp u nt a b = false := decide_eq_false (fun q => k1 q.1)
        rw [e, Bool.false_and, Bool.and_false] at H
        rw [Bool.false_and]
        exact H
theorem centre_allF {a : Nat} : allF u.length (cp u nt a) 0 = centreB u nt a := by
  unfold centreB
  rw [Bool.eq_iff_iff, allF0, decide_eq_true_iff]
  exact ⟨fun q b hb => of_decide_eq_true (q b hb), fun q b hb => decide_eq_true (q b hb)⟩
theorem ct_l0 (h : OL u nt) (a : Nat) (ha : a ≤ u.length) : Ev (fun k => spec_CentreOf.l0 k (castL ((List.range a).filter (centreB u nt))) a u nt) (castL ((List.range u.length).filter (centreB u nt))) := by
  have h12 := h.1.1.le12
  have hl := h.2.1
  have hL : logicF u nt = true := decide_eq_true h
  refine down u.length (fun a => Ev (fun k => spec_CentreOf.l0 k (castL ((List.range a).filter (centreB u nt))) a u nt) (castL ((List.range u.length).filter (centreB u nt)))) ?_ ?_ a ha
  · refine Ev.step (fun k => spec_CentreOf.l0.eq_2 ..) ?_
    refine Ev.neg (by omega) ?_
    exact Ev.step (fun k => spec_CentreOf.j1.eq_2 ..) (Ev.ff rfl (Ev.ret rfl))
  · intro a ha ih
    refine Ev.step (fun k => spec_CentreOf.l0.eq_2 ..) ?_
    refine Ev.pos (by omega) (Ev.bind (spec_logic_ev u nt) ?_)
    refine Ev.step (fun k => spec_CentreOf.j1.eq_2 ..) (Ev.tt hL ?_)
    refine ct_l1 h ha (filter_range_le _ _) 0 (Nat.zero_le _) true ?_
    rw [Bool.true_and, centre_allF, ← filter_range_succ]
    exact ih
theorem spec_centre_ev (u : List (List Int)) (nt : List Int) : Ev (fun k => spec_CentreOf.f k u nt) (centreF u nt) := by
  unfold spec_CentreOf.f centreF
  by_cases h : OL u nt
  · rw [if_pos h]
    exact ct_l0 h 0 (Nat.zero_le _)
  · rw [if_neg h]
    have hL : logicF u nt = false := decide_eq_false h
    refine Ev.step (fun k => spec_CentreOf.l0.eq_2 ..) ?_
    by_cases k : (0 : Int) < nt.length
    · refine Ev.pos k (Ev.bind (spec_logic_ev u nt) ?_)
      exact Ev.step (fun k => spec_CentreOf.j1.eq_2 ..) (Ev.ff hL (Ev.ret rfl))
    · refine Ev.neg k ?_
      exact Ev.step (fun k => spec_CentreOf.j1.eq_2 ..) (Ev.ff rfl (Ev.ret rfl))
theorem centreF_le (u : List (List Int)) (nt : List Int) : (centreF u nt).length ≤ u.length := by
  unfold centreF
  split
  · exact filter_range_le _ _
  · exact Nat.zero_le _
end
end Go.Proofs.Ytacifhahfamipaa.Q

