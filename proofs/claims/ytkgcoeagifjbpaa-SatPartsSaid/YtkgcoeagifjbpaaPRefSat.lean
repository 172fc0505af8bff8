/- What the document's functions of sat tell, as plain functions of whole numbers. -/
import Derived.Test.YtkgcoeagifjbpaaPSat
import Derived.Test.YtkgcoeagifjbpaaPAx1
namespace Go.Proofs.Ytkgcoeagifjbpaa.Pure
open Go.RowKit Go.Proofs.Ytkgcoeagifjbpaa.PA Go.Proofs.Ytkgcoeagifjbpaa.SatDiv Go.Proofs.YtkgcoeagifjbpaaW.PrintWords Go.Proofs.YtkgcoeagifjbpaaW.PrintLast Go.Proofs.YtkgcoeagifjbpaaW.PrintMore
set_option linter.unusedVariables false

theorem rhold_f (x : Int) : flashlockref01_Hold.f x = some (hd x) := rfl
theorem radd_f (x y : Int) : flashlockref01_Add.f x y = some (addV x y) := rfl
theorem rsub_f (x y : Int) : flashlockref01_Sub.f x y = some (subV x y) := rfl
end Go.Proofs.Ytkgcoeagifjbpaa.Pure
