import Derived.Test.YtacifhahfamipaaPk5
import Derived.Test.YtacifhahfamipaaCm
namespace Go.Proofs.Ytacifhahfamipaa.Q
open Go.RowKit Go.Proofs.YtacifhahfamipaaW.PrintWords Go.Proofs.YtacifhahfamipaaW.PrintLast Go.Proofs.YtacifhahfamipaaW.PrintMore Go.Proofs.Ytacifhahfamipaa.P Go.Proofs.Cl
set_option linter.unusedVariables false

theorem sameInts_ev (xs : List Int) (h : xs.length < 9223372036854775807) : Ev (fun k => laws_sameInts.f k xs xs) true := by
  unfold laws_sameInts.f
  refine Ev.pos rfl ?_
  refine down xs.length (fun i => Ev (fun k => laws_sameInts.l0 k xs xs i) true) ?_ ?_ 0 (Nat.zero_le _)
  · refine Ev.step (fun k => laws_sameInts.l0.eq_2 ..) ?_
    exact Ev.neg (by omega) (Ev.ret rfl)
  · intro i hi ih
    refine Ev.step (fun k => laws_sameInts.l0.eq_2 ..) ?_
    refine Ev.pos (by omega) (Ev.pos (by omega) (Ev.pos (by omega) (Ev.pos rfl ?_)))
    rw [wrap_succ' i (by omega)]
    exact ih
end Go.Proofs.Ytacifhahfamipaa.Q

