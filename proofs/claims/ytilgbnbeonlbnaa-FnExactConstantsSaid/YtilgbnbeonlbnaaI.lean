-- written by gen.py (a program of this session) out of the kit's print of this seat's translation
import Derived.Test.YtilgbnbeonlbnaaK
import Derived.Test.YtilgbnbeonlbnaaProg
namespace Go.Proofs.Ytilgbnbeonlbnaa.P
open Go.RowKit Go.Proofs.YtilgbnbeonlbnaaW.PrintWords Go.Proofs.YtilgbnbeonlbnaaW.PrintLast Go.Proofs.YtilgbnbeonlbnaaW.PrintMore
attribute [local go_sem] max2_int min2_int max_two min_two max_three min_three max_four min_four
set_option linter.unusedVariables false
set_option linter.unusedSimpArgs false
theorem info3 : (Try.prog.info? 3).map (fun i => (i.zero, i.size, i.bytes)) = some (some (.int .i64 0), 1, 8) := by kernel_rfl
theorem info5 : (Try.prog.info? 5).map (fun i => (i.zero, i.size, i.bytes)) = some (some (.int .u8 0), 1, 1) := by kernel_rfl
theorem info32 : (Try.prog.info? 32).map (fun i => (i.zero, i.size, i.bytes)) = some (some (.slice none 0 0), 1, 24) := by kernel_rfl
end Go.Proofs.Ytilgbnbeonlbnaa.P
