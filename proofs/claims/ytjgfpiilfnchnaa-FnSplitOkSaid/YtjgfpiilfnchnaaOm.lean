import Derived.Test.YtjgfpiilfnchnaaOx
namespace Go.Proofs.Ytjgfpiilfnchnaa.Q
open Go.RowKit Go.Proofs.YtjgfpiilfnchnaaW.PrintWords Go.Proofs.YtjgfpiilfnchnaaW.PrintLast Go.Proofs.YtjgfpiilfnchnaaW.PrintMore Go.Proofs.Ytjgfpiilfnchnaa.P Go.Proofs.Cl
set_option linter.unusedVariables false

theorem impl_turnedOf_ev (u : List (List Int)) : Ev (fun k => impl_TurnedOf.f k u) (turnOf u) := by
  unfold impl_TurnedOf.f
  refine Ev.bind (impl_ord u) ?_
  by_cases h : Ord u
  · refine Ev.tt (decide_eq_true h) ?_
    refine Ev.bind (turned_ev h) ?_
    exact Ev.ret (by rw [turnOf, if_pos h])
  · exact Ev.ff (decide_eq_false h) (Ev.ret (by rw [turnOf, if_neg h]))
end Go.Proofs.Ytjgfpiilfnchnaa.Q

