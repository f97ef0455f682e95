import Derived.Test.YtjgfpiilfnchnaaPk5
import Derived.Test.YtjgfpiilfnchnaaOm
namespace Go.Proofs.Ytjgfpiilfnchnaa.Q
open Go.RowKit Go.Proofs.YtjgfpiilfnchnaaW.PrintWords Go.Proofs.YtjgfpiilfnchnaaW.PrintLast Go.Proofs.YtjgfpiilfnchnaaW.PrintMore Go.Proofs.Ytjgfpiilfnchnaa.P Go.Proofs.Cl
set_option linter.unusedVariables false
section
variable {u : List (List Int)} {nt : List Int}
theorem nj_ {a b : Int} (h : OL u nt) (k : 0 ≤ a ∧ a < u.length) (l : 0 ≤ b ∧ b < u.length) : rd nt (jn u a b) = mt u (rd nt a) (rd nt b) := by
  have ka := ng_in h k
  have kb := ng_in h l
  rw [fi_inj (ng_in h (jn_in h k l)) (mt_in h ka kb), fi_ng h (jn_in h k l), fi_jn h k l, fi_mt h ka kb, fi_ng h k, fi_ng h l]
  exact (toF h).neg_join _ _
theorem nm_ {a b : Int} (h : OL u nt) (k : 0 ≤ a ∧ a < u.length) (l : 0 ≤ b ∧ b < u.length) : rd nt (mt u a b) = jn u (rd nt a) (rd nt b) := by
  have ka := ng_in h k
  have kb := ng_in h l
  rw [fi_inj (ng_in h (mt_in h k l)) (jn_in h ka kb), fi_ng h (mt_in h k l), fi_mt h k l, fi_jn h ka kb, fi_ng h k, fi_ng h l]
  exact (toF h).neg_meet _ _
theorem jt_ {a : Int} (h : OL u nt) (k : 0 ≤ a ∧ a < u.length) : jn u a (rd nt a) = rd nt (leastI u) := by
  have ka := ng_in h k
  rw [fi_inj (jn_in h k ka) (yes_in h), fi_jn h k ka, fi_ng h k, fi_yes h]
  exact (toF h).join_neg _
theorem mc_ {a b : Int} (h : OL u nt) (k : 0 ≤ a ∧ a < u.length) (l : 0 ≤ b ∧ b < u.length) : mt u b a = mt u a b := by
  rw [fi_inj (mt_in h l k) (mt_in h k l), fi_mt h k l, fi_mt h l k]
  exact (toF h).meet_comm _ _
theorem me_ {a b : Int} (h : OL u nt) (k : 0 ≤ a ∧ a < u.length) (l : 0 ≤ b ∧ b < u.length) : mt u a b = a ↔ rdN u a.toNat b.toNat = 1 := by
  rw [fi_inj (mt_in h k l) k, fi_mt h k l, le_F h k l]
  exact ⟨fun e => (toF h).le_of_meet e, fun e => (toF h).meet_eq_l e⟩
theorem least_turn (h : OL u nt) : leastOfP (turnOf u) = (rd nt (leastI u), true) := by
  have ht : turnOf u = turn u := if_pos h.1.1
  have k := yes_in h
  have e : leastI (turn u) = ((rd nt (leastI u)).toNat : Int) := by
    refine leastI_of (turn_ord h.1.1) (by rw [turn_len]; omega) ?_
    intro b hb
    rw [turn_len] at hb
    rw [turn_at u (by omega) hb]
    have := (toF h).le_top ⟨b, hb⟩
    rw [← fi_yes h] at this
    exact this
  rw [ht]
  have : (0 : Int) ≤ leastI (turn u) := by omega
  simp only [leastOfP, turn_ord h.1.1, if_true, decide_eq_true this]
  rw [e]
  congr 1
  omega
end
theorem FnYesOf_pure : laws_FnYesOf.Pure := by
  intro code _ _ hw
  refine Ev.rounds ?_
  unfold laws_FnYesOf.f
  by_cases hl : (code.length : Int) > 1048576
  · exact Ev.pos hl (Ev.ret rfl)
  · refine Ev.neg hl ?_
    obtain ⟨⟨u, nt⟩, hu, _⟩ := drawLogic_ev (bytes_of_wf hw) 9
    refine Ev.bind hu (Ev.bindc (a := yesF u nt) rfl (Ev.bind (yes_ev u nt) (Ev.pos rfl ?_)))
    by_cases h : OL u nt
    · have k := yes_in h
      rw [yesF_in h]
      refine Ev.neg (by omega) (Ev.bind (impl_turnedOf_ev u) (Ev.bind (impl_least_ev _) ?_))
      rw [least_turn h]
      exact Ev.pos rfl (Ev.ret (by simp))
    · have e : yesF u nt = -1 := if_neg h
      rw [e]
      exact Ev.pos (by decide) (Ev.pos rfl (Ev.bindc (a := false) (by show some (logicF u nt) = _; rw [logicF, decide_eq_false h]) (Ev.neg Bool.false_ne_true (Ev.bind alive_ev (Ev.ret rfl)))))
theorem FnOrOf_pure : laws_FnOrOf.Pure := by
  intro code _ _ hw
  refine Ev.rounds ?_
  unfold laws_FnOrOf.f
  by_cases hl : (code.length : Int) > 1048576
  · exact Ev.pos hl (Ev.ret rfl)
  · refine Ev.neg hl ?_
    obtain ⟨⟨u, nt, a, b⟩, hu, _⟩ := drawTwo_ev (bytes_of_wf hw) 14
    refine Ev.bind hu (Ev.bindc (a := orF u nt a b) rfl (Ev.bind (or_ev u nt a b) (Ev.pos rfl ?_)))
    by_cases h : OL u nt ∧ okAll u.length [a, b] = true
    · obtain ⟨h, k⟩ := h
      obtain ⟨k, l⟩ := ok2.1 k
      have ka := ng_in h k
      have kb := ng_in h l
      have kn := jn_in h k l
      rw [orF_in h k l]
      refine Ev.neg (by omega) (Ev.bindc (a := rd nt (jn u a b)) (by show some (notF u nt _) = _; rw [notF_in h kn]) (Ev.bindc (a := rd nt a) (by show some (notF u nt _) = _; rw [notF_in h k]) (Ev.bindc (a := rd nt b) (by show some (notF u nt _) = _; rw [notF_in h l]) (Ev.bindc (a := mt u (rd nt a) (rd nt b)) (by show some (andF u nt _ _) = _; rw [andF_in h ka kb]) (Ev.pos (nj_ h k l) ?_)))))
      exact Ev.bindc (a := rd nt a) (by show some (notF u nt _) = _; rw [notF_in h k]) (Ev.bindc (a := rd nt (leastI u)) (by show some (orF u nt _ _) = _; rw [orF_in h k ka, jt_ h k]) (Ev.bindc (a := rd nt (leastI u)) (by show some (yesF u nt) = _; rw [yesF_in h]) (Ev.ret (by simp))))
    · have e : orF u nt a b = -1 := if_neg h
      rw [e]
      exact Ev.pos (by decide) (Ev.pos rfl (Ev.bind alive_ev (Ev.ret rfl)))
theorem FnAndOf_pure : laws_FnAndOf.Pure := by
  intro code _ _ hw
  refine Ev.rounds ?_
  unfold laws_FnAndOf.f
  by_cases hl : (code.length : Int) > 1048576
  · exact Ev.pos hl (Ev.ret rfl)
  · refine Ev.neg hl ?_
    obtain ⟨⟨u, nt, a, b⟩, hu, _⟩ := drawTwo_ev (bytes_of_wf hw) 14
    refine Ev.bind hu (Ev.bindc (a := andF u nt a b) rfl (Ev.bind (and_ev u nt a b) (Ev.pos rfl ?_)))
    by_cases h : OL u nt ∧ okAll u.length [a, b] = true
    · obtain ⟨h, k⟩ := h
      obtain ⟨k, l⟩ := ok2.1 k
      have ka := ng_in h k
      have kb := ng_in h l
      have kn := mt_in h k l
      rw [andF_in h k l]
      refine Ev.neg (by omega) (Ev.bindc (a := rd nt (mt u a b)) (by show some (notF u nt _) = _; rw [notF_in h kn]) (Ev.bindc (a := rd nt a) (by show some (notF u nt _) = _; rw [notF_in h k]) (Ev.bindc (a := rd nt b) (by show some (notF u nt _) = _; rw [notF_in h l]) (Ev.bindc (a := jn u (rd nt a) (rd nt b)) (by show some (orF u nt _ _) = _; rw [orF_in h ka kb]) (Ev.pos (nm_ h k l) ?_)))))
      have rl : (rd_L1 u a).length = u.length := h.1.1.row (a := a.toNat) (by omega)
      refine Ev.pos k.1 (Ev.pos k.2 (Ev.pos l.1 (Ev.pos (by show b < ((rd_L1 u a).length : Int); omega) (Ev.pos ?_ (Ev.bindc (a := mt u a b) (by show some (andF u nt _ _) = _; rw [andF_in h l k, mc_ h k l]) (Ev.ret (by simp)))))))
      have q := me_ h k l
      show ((mt u a b == a) == (rdN u a.toNat b.toNat == 1)) = true
      rw [show (mt u a b == a) = (rdN u a.toNat b.toNat == 1) from by rw [Bool.eq_iff_iff, beq_iff_eq, beq_iff_eq]; exact q]
      simp
    · have e : andF u nt a b = -1 := if_neg h
      rw [e]
      exact Ev.pos (by decide) (Ev.pos rfl (Ev.bind alive_ev (Ev.ret rfl)))
end Go.Proofs.Ytjgfpiilfnchnaa.Q

