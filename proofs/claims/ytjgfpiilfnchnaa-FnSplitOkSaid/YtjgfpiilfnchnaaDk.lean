import Derived.Test.YtjgfpiilfnchnaaDm
import Derived.Test.YtjgfpiilfnchnaaLe
namespace Go.Proofs.Ytjgfpiilfnchnaa.Q
open Go.RowKit Go.Proofs.YtjgfpiilfnchnaaW.PrintWords Go.Proofs.YtjgfpiilfnchnaaW.PrintLast Go.Proofs.YtjgfpiilfnchnaaW.PrintMore Go.Proofs.Ytjgfpiilfnchnaa.P Go.Proofs.Cl
set_option linter.unusedVariables false
section
variable {u : List (List Int)} {nt : List Int}
theorem ap_iff {a b : Int} (h : OL u nt) (k : 0 ≤ a ∧ a < u.length) (l : 0 ≤ b ∧ b < u.length) : apartF u nt a b = true ↔ (toF h).le (fi a k) ((toF h).neg (fi b l)) := by
  have e : (rdN u a.toNat (rd nt b).toNat = 1) ↔ (toF h).le (fi a k) ((toF h).neg (fi b l)) := by rw [← fi_ng h l]; exact le_F h k (ng_in h l)
  unfold apartF
  rw [decide_eq_true_eq, ← e]
  exact ⟨fun x => x.2.2, fun x => ⟨h, okP2 k l, x⟩⟩
theorem ap_comm {a b : Int} (h : OL u nt) (k : 0 ≤ a ∧ a < u.length) (l : 0 ≤ b ∧ b < u.length) : apartF u nt b a = apartF u nt a b := by
  rw [Bool.eq_iff_iff, ap_iff h l k, ap_iff h k l]
  exact ⟨fun x => (toF h).na_r x, fun x => (toF h).na_r x⟩
theorem ap_neg {a : Int} (h : OL u nt) (k : 0 ≤ a ∧ a < u.length) : apartF u nt a (rd nt a) = true := by
  rw [ap_iff h k (ng_in h k), fi_ng h k, (toF h).nn]
  exact (toF h).refl _
theorem ap_no {a b : Int} (h : OL u nt) (k : 0 ≤ a ∧ a < u.length) (l : 0 ≤ b ∧ b < u.length) (e : apartF u nt a b = true) : mt u a b = leastI u := by
  rw [ap_iff h k l] at e
  rw [fi_inj (mt_in h k l) (no_in h), fi_mt h k l, fi_no h]
  exact (toF h).bot_of ((toF h).mr _ _) ((toF h).trans ((toF h).ml _ _) e)
theorem ap_self {a : Int} (h : OL u nt) (k : 0 ≤ a ∧ a < u.length) : apartF u nt a a = (a == leastI u) := by
  rw [Bool.eq_iff_iff, ap_iff h k k, beq_iff_eq, fi_inj k (no_in h), fi_no h]
  exact ⟨fun x => (toF h).bot_of ((toF h).refl _) x, fun x => by rw [x]; exact (toF h).bl _⟩
theorem wi_iff {a b : Int} (h : OL u nt) (k : 0 ≤ a ∧ a < u.length) (l : 0 ≤ b ∧ b < u.length) : withF u nt a b = true ↔ (toF h).C (fi a k) (fi b l) := by
  unfold withF
  rw [decide_eq_true_eq, ← with_F h k l]
  exact ⟨fun x => x.2.2, fun x => ⟨h, okP2 k l, x⟩⟩
theorem wi_self {a : Int} (h : OL u nt) (k : 0 ≤ a ∧ a < u.length) : withF u nt a a = true := (wi_iff h k k).2 ((toF h).C_self _)
theorem wi_neg {a : Int} (h : OL u nt) (k : 0 ≤ a ∧ a < u.length) : withF u nt a (rd nt a) = true := by
  rw [wi_iff h k (ng_in h k), fi_ng h k]
  exact (toF h).C_neg_self _
theorem wi_no {a : Int} (h : OL u nt) (k : 0 ≤ a ∧ a < u.length) : withF u nt a (leastI u) = true := by
  rw [wi_iff h k (no_in h), fi_no h]
  exact (toF h).C_bot _
theorem wi_yes {a : Int} (h : OL u nt) (k : 0 ≤ a ∧ a < u.length) : withF u nt a (rd nt (leastI u)) = true := by
  rw [wi_iff h k (yes_in h), fi_yes h]
  exact (toF h).C_top _
theorem wi_opp {a b : Int} (h : OL u nt) (k : 0 ≤ a ∧ a < u.length) (l : 0 ≤ b ∧ b < u.length) : withF u nt a (rd nt b) = withF u nt a b := by
  rw [Bool.eq_iff_iff, wi_iff h k (ng_in h l), wi_iff h k l, fi_ng h l]
  exact (toF h).C_neg
theorem wi_le {a b : Int} (h : OL u nt) (k : 0 ≤ a ∧ a < u.length) (l : 0 ≤ b ∧ b < u.length) (e : ¬ rdN u a.toNat b.toNat = 0) : withF u nt a b = true := by
  rcases h.1.1.bit (a := a.toNat) (b := b.toNat) (by omega) (by omega) with q | q
  · exact absurd q e
  · exact (wi_iff h k l).2 ((toF h).C_of_le ((le_F h k l).1 q))
theorem fr_in {a b : Int} (h : OL u nt) (k : 0 ≤ a ∧ a < u.length) (l : 0 ≤ b ∧ b < u.length) : fromF u nt a b = jn u (jn u (mt u a b) (mt u a (rd nt b))) (jn u (mt u (rd nt a) b) (mt u (rd nt a) (rd nt b))) := if_pos ⟨h, okP2 k l⟩
theorem fr_k {a b : Int} (h : OL u nt) (k : 0 ≤ a ∧ a < u.length) (l : 0 ≤ b ∧ b < u.length) : 0 ≤ fromF u nt a b ∧ fromF u nt a b < u.length := by
  rw [fr_in h k l]
  have ka := ng_in h k
  have kb := ng_in h l
  exact jn_in h (jn_in h (mt_in h k l) (mt_in h k kb)) (jn_in h (mt_in h ka l) (mt_in h ka kb))
theorem fr_F {a b : Int} (h : OL u nt) (k : 0 ≤ a ∧ a < u.length) (l : 0 ≤ b ∧ b < u.length) : fi (fromF u nt a b) (fr_k h k l) = OlT.OL.four (toF h) (fi a k) (fi b l) := by
  have ka := ng_in h k
  have kb := ng_in h l
  have e := fr_in h k l
  have : ∀ (x : Int) (kx : 0 ≤ x ∧ x < u.length), fromF u nt a b = x → fi (fromF u nt a b) (fr_k h k l) = fi x kx := fun x kx q => (fi_inj _ _).1 q
  rw [this _ (jn_in h (jn_in h (mt_in h k l) (mt_in h k kb)) (jn_in h (mt_in h ka l) (mt_in h ka kb))) e]
  rw [fi_jn h (jn_in h (mt_in h k l) (mt_in h k kb)) (jn_in h (mt_in h ka l) (mt_in h ka kb)), fi_jn h (mt_in h k l) (mt_in h k kb), fi_jn h (mt_in h ka l) (mt_in h ka kb), fi_mt h k l, fi_mt h k kb, fi_mt h ka l, fi_mt h ka kb, fi_ng h k, fi_ng h l]
  rfl
theorem fr_comm {a b : Int} (h : OL u nt) (k : 0 ≤ a ∧ a < u.length) (l : 0 ≤ b ∧ b < u.length) : fromF u nt b a = fromF u nt a b := by
  rw [fi_inj (fr_k h l k) (fr_k h k l), fr_F h l k, fr_F h k l]
  exact (toF h).four_comm _ _
theorem fr_neg {a b : Int} (h : OL u nt) (k : 0 ≤ a ∧ a < u.length) (l : 0 ≤ b ∧ b < u.length) : fromF u nt (rd nt a) b = fromF u nt a b := by
  rw [fi_inj (fr_k h (ng_in h k) l) (fr_k h k l), fr_F h (ng_in h k) l, fr_F h k l, fi_ng h k]
  exact (toF h).four_neg _ _
theorem fr_top {a b : Int} (h : OL u nt) (q : keepsF u nt = true) (k : 0 ≤ a ∧ a < u.length) (l : 0 ≤ b ∧ b < u.length) : (fromF u nt a b == rd nt (leastI u)) = withF u nt a b := by
  have om : (toF h).OM := (keeps_F h).1 (of_decide_eq_true q).2
  rw [Bool.eq_iff_iff, beq_iff_eq, wi_iff h k l, fi_inj (fr_k h k l) (yes_in h), fr_F h k l, fi_yes h]
  exact om.four_top _ _
end
theorem FnApartOk_pure : laws_FnApartOk.Pure := by
  intro code _ _ hw
  refine Ev.rounds ?_
  unfold laws_FnApartOk.f
  by_cases hl : (code.length : Int) > 1048576
  · exact Ev.pos hl (Ev.ret rfl)
  · refine Ev.neg hl ?_
    obtain ⟨⟨u, nt, a, b⟩, hu, _⟩ := drawTwo_ev (bytes_of_wf hw) 14
    refine Ev.bind hu (Ev.bindc (a := apartF u nt a b) rfl (Ev.bind (apart_ev u nt a b) (Ev.ff (by simp) (Ev.bind (and_ev u nt a b) ?_))))
    by_cases h : OL u nt ∧ okAll u.length [a, b] = true
    · obtain ⟨h, k⟩ := h
      obtain ⟨k, l⟩ := ok2.1 k
      have kn := mt_in h k l
      rw [andF_in h k l]
      refine Ev.neg (by omega) (Ev.bindc (a := apartF u nt b a) rfl (Ev.pos (by show (apartF u nt b a == apartF u nt a b) = true; rw [ap_comm h k l]; simp) ?_))
      have L : Ev (fun n => (impl_NotOf.f u nt a).bind fun t770 => ((impl_ApartOk.f u nt a t770).bind fun t771 => (if t771 = true then ((impl_ApartOk.f u nt a a).bind fun t772 => ((impl_NoOf.f u nt).bind fun t773 => (some (t772 == (a == t773))))) else (some false)))) true :=
        Ev.bindc (a := rd nt a) (by show some (notF u nt _) = _; rw [notF_in h k]) (Ev.bindc (a := true) (by show some (apartF u nt _ _) = _; rw [ap_neg h k]) (Ev.pos rfl (Ev.bindc (a := (a == leastI u)) (by show some (apartF u nt _ _) = _; rw [ap_self h k]) (Ev.bindc (a := leastI u) (by show some (noF u nt) = _; rw [noF_in h]) (Ev.ret (by simp))))))
      cases e : apartF u nt a b with
      | true => exact Ev.pos rfl (Ev.bindc (a := leastI u) (by show some (andF u nt _ _) = _; rw [andF_in h k l, ap_no h k l e]) (Ev.bindc (a := leastI u) (by show some (noF u nt) = _; rw [noF_in h]) (Ev.pos rfl L)))
      | false => exact Ev.neg Bool.false_ne_true L
    · have e : andF u nt a b = -1 := if_neg h
      have e2 : apartF u nt a b = false := decide_eq_false (fun x => h ⟨x.1, x.2.1⟩)
      rw [e, e2]
      exact Ev.pos (by decide) (Ev.neg Bool.false_ne_true (Ev.bind alive_ev (Ev.ret rfl)))
theorem FnWithOk_pure : laws_FnWithOk.Pure := by
  intro code _ _ hw
  refine Ev.rounds ?_
  unfold laws_FnWithOk.f
  by_cases hl : (code.length : Int) > 1048576
  · exact Ev.pos hl (Ev.ret rfl)
  · refine Ev.neg hl ?_
    obtain ⟨⟨u, nt, a, b⟩, hu, _⟩ := drawTwo_ev (bytes_of_wf hw) 14
    refine Ev.bind hu (Ev.bindc (a := withF u nt a b) rfl (Ev.bind (with_ev u nt a b) (Ev.ff (by simp) (Ev.bind (and_ev u nt a b) ?_))))
    by_cases h : OL u nt ∧ okAll u.length [a, b] = true
    · obtain ⟨h, k⟩ := h
      obtain ⟨k, l⟩ := ok2.1 k
      have kn := mt_in h k l
      rw [andF_in h k l]
      have rl : (rd_L1 u a).length = u.length := h.1.1.row (a := a.toNat) (by omega)
      refine Ev.neg (by omega) (Ev.bindc (a := true) (by show some (withF u nt a a) = _; rw [wi_self h k]) (Ev.pos rfl ?_))
      refine Ev.bindc (a := rd nt a) (by show some (notF u nt _) = _; rw [notF_in h k]) (Ev.bindc (a := true) (by show some (withF u nt a _) = _; rw [wi_neg h k]) (Ev.pos rfl ?_))
      refine Ev.bindc (a := leastI u) (by show some (noF u nt) = _; rw [noF_in h]) (Ev.bindc (a := true) (by show some (withF u nt a _) = _; rw [wi_no h k]) (Ev.pos rfl ?_))
      refine Ev.bindc (a := rd nt (leastI u)) (by show some (yesF u nt) = _; rw [yesF_in h]) (Ev.bindc (a := true) (by show some (withF u nt a _) = _; rw [wi_yes h k]) (Ev.pos rfl ?_))
      refine Ev.pos k.1 (Ev.pos k.2 (Ev.pos l.1 (Ev.pos (by show b < ((rd_L1 u a).length : Int); omega) ?_)))
      have L : Ev (fun n => (impl_NotOf.f u nt b).bind fun t866 => ((impl_WithOk.f u nt a t866).bind fun t867 => (some (t867 == withF u nt a b)))) true :=
        Ev.bindc (a := rd nt b) (by show some (notF u nt _) = _; rw [notF_in h l]) (Ev.bindc (a := withF u nt a b) (by show some (withF u nt a _) = _; rw [wi_opp h k l]) (Ev.ret (by simp)))
      by_cases e : rd (rd_L1 u a) b = 0
      · exact Ev.pos e L
      · exact Ev.neg e (Ev.pos (wi_le h k l e) L)
    · have e : andF u nt a b = -1 := if_neg h
      have e2 : withF u nt a b = false := decide_eq_false (fun x => h ⟨x.1, x.2.1⟩)
      rw [e, e2]
      exact Ev.pos (by decide) (Ev.neg Bool.false_ne_true (Ev.bind alive_ev (Ev.ret rfl)))
theorem FnApartFrom_pure : laws_FnApartFrom.Pure := by
  intro code _ _ hw
  refine Ev.rounds ?_
  unfold laws_FnApartFrom.f
  by_cases hl : (code.length : Int) > 1048576
  · exact Ev.pos hl (Ev.ret rfl)
  · refine Ev.neg hl ?_
    obtain ⟨⟨u, nt, a, b⟩, hu, _⟩ := drawTwo_ev (bytes_of_wf hw) 14
    refine Ev.bind hu (Ev.bindc (a := fromF u nt a b) rfl (Ev.bind (from_ev u nt a b) (Ev.pos rfl ?_)))
    by_cases h : OL u nt ∧ okAll u.length [a, b] = true
    · obtain ⟨h, k⟩ := h
      obtain ⟨k, l⟩ := ok2.1 k
      have kf := fr_k h k l
      refine Ev.neg (by show ¬ fromF u nt a b < 0; omega) (Ev.bindc (a := keepsF u nt) rfl ?_)
      have L : Ev (fun n => (impl_ApartFrom.f u nt b a).bind fun t1013 => (if t1013 = fromF u nt a b then ((impl_NotOf.f u nt a).bind fun t1014 => ((impl_ApartFrom.f u nt t1014 b).bind fun t1015 => (some (t1015 == fromF u nt a b)))) else (some false))) true :=
        Ev.bindc (a := fromF u nt a b) (by show some (fromF u nt b a) = _; rw [fr_comm h k l]) (Ev.pos rfl (Ev.bindc (a := rd nt a) (by show some (notF u nt _) = _; rw [notF_in h k]) (Ev.bindc (a := fromF u nt a b) (by show some (fromF u nt _ b) = _; rw [fr_neg h k l]) (Ev.ret (by simp)))))
      cases q : keepsF u nt with
      | true => exact Ev.pos rfl (Ev.bindc (a := rd nt (leastI u)) (by show some (yesF u nt) = _; rw [yesF_in h]) (Ev.bindc (a := withF u nt a b) rfl (Ev.pos (by show ((fromF u nt a b == rd nt (leastI u)) == withF u nt a b) = true; rw [fr_top h q k l]; simp) L)))
      | false => exact Ev.neg Bool.false_ne_true L
    · have e : fromF u nt a b = -1 := if_neg h
      rw [e]
      exact Ev.pos (by decide) (Ev.pos rfl (Ev.bind alive_ev (Ev.ret rfl)))
theorem FnBothWaysOk_pure : laws_FnBothWaysOk.Pure := by
  intro code _ _ hw
  refine Ev.rounds ?_
  unfold laws_FnBothWaysOk.f
  by_cases hl : (code.length : Int) > 1048576
  · exact Ev.pos hl (Ev.ret rfl)
  · refine Ev.neg hl ?_
    obtain ⟨⟨u, nt⟩, hu, _⟩ := drawLogic_ev (bytes_of_wf hw) 9
    refine Ev.bind hu (Ev.bindc (a := waysF u nt) rfl (Ev.bind (ways_ev u nt) (Ev.ff (by simp) (Ev.bindc (a := ringF 6) rfl (Ev.bindc (a := keepsF u nt) rfl (Ev.pos (by show (waysF u nt == keepsF u nt) = true; rw [keeps_ways]; simp) (Ev.pos (by kernel_rfl) (Ev.bindc (a := false) (by kernel_rfl) (Ev.neg Bool.false_ne_true (Ev.bind (impl_ord _) (Ev.ret (by decide))))))))))))
end Go.Proofs.Ytjgfpiilfnchnaa.Q

