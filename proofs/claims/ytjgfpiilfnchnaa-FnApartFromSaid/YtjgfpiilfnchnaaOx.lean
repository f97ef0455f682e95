import Derived.Test.YtjgfpiilfnchnaaPk5
namespace Go.Proofs.Ytjgfpiilfnchnaa.Q
open Go.RowKit Go.Proofs.YtjgfpiilfnchnaaW.PrintWords Go.Proofs.YtjgfpiilfnchnaaW.PrintLast Go.Proofs.YtjgfpiilfnchnaaW.PrintMore Go.Proofs.Ytjgfpiilfnchnaa.P Go.Proofs.Cl
set_option linter.unusedVariables false

end Go.Proofs.Ytjgfpiilfnchnaa.Q

