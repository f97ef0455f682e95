import Derived.Test.YtilgbnbeonlbnaaPk3
namespace Go.Proofs.Ytilgbnbeonlbnaa.Q
open Go.RowKit Go.Proofs.YtilgbnbeonlbnaaW.PrintWords Go.Proofs.YtilgbnbeonlbnaaW.PrintLast Go.Proofs.YtilgbnbeonlbnaaW.PrintMore Go.Proofs.Ytilgbnbeonlbnaa.P Go.Proofs.Cl
set_option linter.unusedVariables false

theorem impl_turnedOf_ev (u : List (List Int)) : Ev (fun k => impl_TurnedOf.f k u) (turnOf u) := by
  unfold impl_TurnedOf.f
  refine Ev.bind (impl_ord u) ?_
  by_cases h : Ord u
  · refine Ev.tt (decide_eq_true h) ?_
    refine Ev.bind (turned_ev h) ?_
    exact Ev.ret (by rw [turnOf, if_pos h])
  · exact Ev.ff (decide_eq_false h) (Ev.ret (by rw [turnOf, if_neg h]))
theorem st_l1 {u v : List (List Int)} (h : Ord u) {a : Nat} (ha : a < u.length) (hv : v.length ≤ 12) {r : List (List Int)}
    (H : Ev (fun k => spec_TurnedOf.l0 k u (v ++ [(List.range u.length).map fun b => rdN u b a]) ((a + 1 : Nat) : Int)) r) (b : Nat) (hb : b ≤ u.length) :
    Ev (fun k => spec_TurnedOf.l1 k u v a ((List.range b).map fun b => rdN u b a) b) r := by
  have hn := h.le12
  refine down u.length (fun b => Ev (fun k => spec_TurnedOf.l1 k u v a ((List.range b).map fun b => rdN u b a) b) r) ?_ ?_ b hb
  · refine Ev.step (fun k => spec_TurnedOf.l1.eq_2 ..) ?_
    refine Ev.neg (by omega) ?_
    refine Ev.pos (by omega) ?_
    rw [wrap_succ a (by omega)]
    exact H
  · intro b hb ih
    have h1 := row_len h hb
    refine Ev.step (fun k => spec_TurnedOf.l1.eq_2 ..) ?_
    repeat (refine Ev.pos (by omega) ?_)
    refine Ev.pos (by simp; omega) ?_
    rw [wrap_succ b (by omega)]
    rw [List.range_succ, List.map_append] at ih
    exact ih
theorem st_l0 {u : List (List Int)} (h : Ord u) (a : Nat) (ha : a ≤ u.length) :
    Ev (fun k => spec_TurnedOf.l0 k u ((List.range a).map fun a => (List.range u.length).map fun b => rdN u b a) a) (turn u) := by
  have hn := h.le12
  refine down u.length (fun a => Ev (fun k => spec_TurnedOf.l0 k u ((List.range a).map fun a => (List.range u.length).map fun b => rdN u b a) a) (turn u)) ?_ ?_ a ha
  · refine Ev.step (fun k => spec_TurnedOf.l0.eq_2 ..) ?_
    refine Ev.neg (by omega) ?_
    refine Ev.step (fun k => spec_TurnedOf.j1.eq_2 ..) ?_
    exact Ev.neg Bool.false_ne_true (Ev.ret rfl)
  · intro a ha ih
    refine Ev.step (fun k => spec_TurnedOf.l0.eq_2 ..) ?_
    refine Ev.pos (by omega) ?_
    refine Ev.bind (spec_ord u) ?_
    refine Ev.step (fun k => spec_TurnedOf.j1.eq_2 ..) ?_
    refine Ev.tt (decide_eq_true h) ?_
    rw [List.range_succ, List.map_append] at ih
    exact st_l1 h ha (by simp; omega) ih 0 (Nat.zero_le _)
theorem spec_turnedOf_ev (u : List (List Int)) : Ev (fun k => spec_TurnedOf.f k u) (turnOf u) := by
  unfold spec_TurnedOf.f
  by_cases h : Ord u
  · rw [turnOf, if_pos h]
    exact st_l0 h 0 (Nat.zero_le _)
  · rw [turnOf, if_neg h]
    refine Ev.step (fun k => spec_TurnedOf.l0.eq_2 ..) ?_
    by_cases e : (0 : Int) < u.length
    · refine Ev.pos e ?_
      refine Ev.bind (spec_ord u) ?_
      refine Ev.step (fun k => spec_TurnedOf.j1.eq_2 ..) ?_
      exact Ev.ff (decide_eq_false h) (Ev.ret rfl)
    · refine Ev.neg e ?_
      refine Ev.step (fun k => spec_TurnedOf.j1.eq_2 ..) ?_
      exact Ev.neg Bool.false_ne_true (Ev.ret rfl)

end Go.Proofs.Ytilgbnbeonlbnaa.Q

