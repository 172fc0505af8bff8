/- What the document's functions of sat tell, as plain functions of whole numbers. -/
import Derived.Test.YtkgcoeagifjbpaaPSat
import Derived.Test.YtkgcoeagifjbpaaPAx1
import Derived.Test.YtkgcoeagifjbpaaPAx2
namespace Go.Proofs.Ytkgcoeagifjbpaa.Pure
open Go.RowKit Go.Proofs.Ytkgcoeagifjbpaa.PA Go.Proofs.Ytkgcoeagifjbpaa.SatDiv Go.Proofs.YtkgcoeagifjbpaaW.PrintWords Go.Proofs.YtkgcoeagifjbpaaW.PrintLast Go.Proofs.YtkgcoeagifjbpaaW.PrintMore
set_option linter.unusedVariables false

theorem rhold_f (x : Int) : flashlockref01_Hold.f x = some (hd x) := by
  unfold flashlockref01_Hold.f flashlockref01_most.f hd; simp only [Option.bind_some]
  rw [wr (by omega)]
  by_cases h1 : x > 1152921504606846976
  · rw [if_pos h1, if_neg (by omega), if_pos h1]
  · rw [if_neg h1]; by_cases h2 : x < -1152921504606846976
    · rw [if_pos h2, if_pos h2]
    · rw [if_neg h2, if_neg h2, if_neg h1]
theorem radd_f (x y : Int) : flashlockref01_Add.f x y = some (addV x y) := by
  have := hd_range x; have := hd_range y
  unfold flashlockref01_Add.f addV; simp only [rhold_f, Option.bind_some]; rw [wr (by omega)]
theorem rsub_f (x y : Int) : flashlockref01_Sub.f x y = some (subV x y) := by
  have := hd_range x; have := hd_range y
  unfold flashlockref01_Sub.f subV; simp only [rhold_f, Option.bind_some]; rw [wr (by omega)]
end Go.Proofs.Ytkgcoeagifjbpaa.Pure
