import Derived.Test.YtacifhahfamipaaPk2
namespace Go.Proofs.Cl
set_option linter.unusedVariables false

section
variable {u : List (List Int)} (h : Ord u) {l : Nat} (hl : l < u.length) (least : IsLeast u l)
end
end Go.Proofs.Cl

