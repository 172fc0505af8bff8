-- written by wip/tools/pr.py over the kit's print.py, out of the translation; Lean checks it
import Derived.Test.YtkgcoeagifjbpaaPKx0
namespace Go.Proofs.Ytkgcoeagifjbpaa.PK
open Go.RowKit Go.Proofs.YtkgcoeagifjbpaaW.PrintWords Go.Proofs.YtkgcoeagifjbpaaW.PrintLast Go.Proofs.YtkgcoeagifjbpaaW.PrintMore
attribute [local go_sem] max2_int min2_int max_two min_two max_three min_three max_four min_four   -- for this text's walks alone
set_option linter.unusedVariables false
set_option linter.unusedSimpArgs false

-- NOT PRINTED: function 69 (sat_right)

-- NOT PRINTED: function 70 (bits_Mul64)

-- NOT PRINTED: function 71 (sat_divided)

-- NOT PRINTED: function 40 (sat_Part)

-- NOT PRINTED: function 48 (sat_Hold)

-- NOT PRINTED: function 42 (sat_Up)

-- NOT PRINTED: function 45 (sat_Add)

-- NOT PRINTED: function 44 (flashlocklaw01_lives)

-- NOT PRINTED: function 74 (sat_amount)

-- NOT PRINTED: function 46 (sat_Mul)

-- NOT PRINTED: function 47 (sat_Sub)

/-! ### flashlocklaw01_SatKeeps: function 11 -/
def flashlocklaw01_SatKeeps.f (a0 : Int) (a1 : Int) (a2 : Int) : Option (Bool) := some true
def flashlocklaw01_SatKeeps.Pure : Prop := ∀ (a0 : Int) (a1 : Int) (a2 : Int), flashlocklaw01_SatKeeps.f a0 a1 a2 = some true
theorem flashlocklaw01_SatKeeps.walk (P : flashlocklaw01_SatKeeps.Pure) (a0 : Int) (a1 : Int) (a2 : Int) (w : World) (w0 : (Lit.int .i64 a0).wf = true) (w1 : (Lit.int .i64 a1).wf = true) (w2 : (Lit.int .i64 a2).wf = true) :
    Calls Try.prog 11 #[.int .i64 a0, .int .i64 a1, .int .i64 a2] w fun e w' => e = .returned (.bool true) ∧ Below w.heap.size w w' :=
  Go.Proofs.Ytkgcoeagifjbpaa.SatDiv.keeps_calls a0 a1 a2 w

end Go.Proofs.Ytkgcoeagifjbpaa.PK
