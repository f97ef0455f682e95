import Derived.Test.YtjgfpiilfnchnaaDk
namespace Go.Proofs.Ytjgfpiilfnchnaa.Q
open Go.RowKit Go.Proofs.YtjgfpiilfnchnaaW.PrintWords Go.Proofs.YtjgfpiilfnchnaaW.PrintLast Go.Proofs.YtjgfpiilfnchnaaW.PrintMore Go.Proofs.Ytjgfpiilfnchnaa.P Go.Proofs.Cl
set_option linter.unusedVariables false
section
variable {u : List (List Int)} {nt : List Int}
theorem sp_iff {a b c : Int} (h : OL u nt) (k : 0 ≤ a ∧ a < u.length) (l : 0 ≤ b ∧ b < u.length) (m : 0 ≤ c ∧ c < u.length) :
    splitF u nt a b c = true ↔ (toF h).meet (fi a k) ((toF h).join (fi b l) (fi c m)) = (toF h).join ((toF h).meet (fi a k) (fi b l)) ((toF h).meet (fi a k) (fi c m)) := by
  unfold splitF
  have kj := jn_in h l m
  have k1 := mt_in h k l
  have k2 := mt_in h k m
  rw [decide_eq_true_eq, ← fi_jn h l m, ← fi_mt h k kj, ← fi_mt h k l, ← fi_mt h k m, ← fi_jn h k1 k2, ← fi_inj (mt_in h k kj) (jn_in h k1 k2)]
  exact ⟨fun x => x.2.2, fun x => ⟨h, ok3.2 ⟨k, l, m⟩, x⟩⟩
theorem sp_all {a b c : Int} (h : OL u nt) (q : keepsF u nt = true) (k : 0 ≤ a ∧ a < u.length) (l : 0 ≤ b ∧ b < u.length) (m : 0 ≤ c ∧ c < u.length)
    (H : (withF u nt a b = true ∧ withF u nt a c = true) ∨ (withF u nt b a = true ∧ withF u nt b c = true) ∨ (withF u nt c a = true ∧ withF u nt c b = true)) :
    splitF u nt a b c = true ∧ splitF u nt b a c = true ∧ splitF u nt c a b = true := by
  have om : (toF h).OM := (keeps_F h).1 (of_decide_eq_true q).2
  rw [sp_iff h k l m, sp_iff h l k m, sp_iff h m k l]
  rcases H with ⟨x, y⟩ | ⟨x, y⟩ | ⟨x, y⟩
  · rw [wi_iff h k l] at x
    rw [wi_iff h k m] at y
    exact ⟨om.split1 x y, om.split2 x y, om.split2 y x⟩
  · rw [wi_iff h l k] at x
    rw [wi_iff h l m] at y
    exact ⟨om.split2 x y, om.split1 x y, om.split3 y x⟩
  · rw [wi_iff h m k] at x
    rw [wi_iff h m l] at y
    exact ⟨om.split3 x y, om.split3 y x, om.split1 x y⟩
theorem two_ {x y : Bool} {A B : Nat → Option Bool} {r : Bool} (hA : x = true → y = true → Ev A r) (hB : Ev B r) :
    Ev (fun n => (some x).bind fun t => if t = true then ((some y).bind fun t' => if t' = true then A n else B n) else B n) r := by
  cases x with
  | false => exact Ev.bindc rfl (Ev.neg Bool.false_ne_true hB)
  | true =>
    refine Ev.bindc rfl (Ev.pos rfl ?_)
    cases y with
    | false => exact Ev.bindc rfl (Ev.neg Bool.false_ne_true hB)
    | true => exact Ev.bindc rfl (Ev.pos rfl (hA rfl rfl))
end
theorem sp_j0t (u : List (List Int)) (nt : List Int) (a b c : Int) : Ev (fun k => laws_FnSplitOk.j0 k a b c (splitF u nt a b c) true u nt) true := by
  refine Ev.step (fun k => laws_FnSplitOk.j0.eq_2 ..) (Ev.pos rfl (Ev.bind (spec_logic_ev u nt) ?_))
  cases e : logicF u nt with
  | true => exact Ev.pos rfl (Ev.bind alive_ev (Ev.ret rfl))
  | false =>
    have e2 : splitF u nt a b c = false := decide_eq_false (fun x => of_decide_eq_false e x.1)
    rw [e2]
    exact Ev.neg Bool.false_ne_true (Ev.neg Bool.false_ne_true (Ev.bind alive_ev (Ev.ret rfl)))
theorem FnSplitOk_pure : laws_FnSplitOk.Pure := by
  intro code _ _ hw
  refine Ev.rounds ?_
  unfold laws_FnSplitOk.f
  by_cases hl : (code.length : Int) > 1048576
  · exact Ev.pos hl (Ev.ret rfl)
  · refine Ev.neg hl ?_
    obtain ⟨⟨u, nt, a, b, c⟩, hu, _⟩ := drawThree_ev (bytes_of_wf hw) 14
    refine Ev.bind hu (Ev.bindc (a := splitF u nt a b c) rfl (Ev.bind (split_ev u nt a b c) (Ev.ff (by simp) (Ev.bind (keeps_ev u nt) ?_))))
    cases q : keepsF u nt with
    | false => exact Ev.neg Bool.false_ne_true (sp_j0t u nt a b c)
    | true =>
      refine Ev.pos rfl (Ev.bind (and_ev u nt a b) ?_)
      by_cases e : andF u nt a b < 0
      · exact Ev.pos e (sp_j0t u nt a b c)
      · refine Ev.neg e (Ev.bind (and_ev u nt a c) ?_)
        by_cases e2 : andF u nt a c < 0
        · rw [decide_eq_true e2]
          exact sp_j0t u nt a b c
        · rw [decide_eq_false e2]
          have h1 : OL u nt ∧ okAll u.length [a, b] = true := Classical.byContradiction fun x => e (by rw [show andF u nt a b = -1 from if_neg x]; decide)
          have h2 : OL u nt ∧ okAll u.length [a, c] = true := Classical.byContradiction fun x => e2 (by rw [show andF u nt a c = -1 from if_neg x]; decide)
          obtain ⟨h, k⟩ := h1
          obtain ⟨k, l⟩ := ok2.1 k
          obtain ⟨_, m⟩ := ok2.1 h2.2
          have T : ((withF u nt a b = true ∧ withF u nt a c = true) ∨ (withF u nt b a = true ∧ withF u nt b c = true) ∨ (withF u nt c a = true ∧ withF u nt c b = true)) →
              Ev (fun n => if splitF u nt a b c = true then ((impl_SplitOk.f u nt b a c).bind fun t => (if t = true then ((impl_SplitOk.f u nt c a b).bind fun t' => (some t')) else (some false))) else (some false)) true := by
            intro H
            obtain ⟨s1, s2, s3⟩ := sp_all h q k l m H
            exact Ev.pos s1 (Ev.bindc (a := true) (by show some (splitF u nt b a c) = _; rw [s2]) (Ev.pos rfl (Ev.bindc (a := true) (by show some (splitF u nt c a b) = _; rw [s3]) (Ev.ret rfl))))
          refine Ev.step (fun k => laws_FnSplitOk.j0.eq_2 ..) (Ev.neg Bool.false_ne_true ?_)
          exact two_ (x := withF u nt a b) (y := withF u nt a c) (fun x y => T (.inl ⟨x, y⟩)) (two_ (x := withF u nt b a) (y := withF u nt b c) (fun x y => T (.inr (.inl ⟨x, y⟩))) (two_ (x := withF u nt c a) (y := withF u nt c b) (fun x y => T (.inr (.inr ⟨x, y⟩))) (Ev.ret rfl)))
end Go.Proofs.Ytjgfpiilfnchnaa.Q

