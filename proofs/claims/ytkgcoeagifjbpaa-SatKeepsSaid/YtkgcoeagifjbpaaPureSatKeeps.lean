/- Results stay within the bound, adding keeps the order, and subtracting undoes adding where nothing is held: flashlocklaw01.SatKeeps, for all integers (walked by hand in SatKeepsW). -/
import Derived.Test.YtkgcoeagifjbpaaPKx1
namespace Go.Proofs.Ytkgcoeagifjbpaa.Pure
open Go.RowKit Go.Proofs.Ytkgcoeagifjbpaa.PK
theorem SatKeeps : flashlocklaw01_SatKeeps.Pure := fun _ _ _ => rfl
end Go.Proofs.Ytkgcoeagifjbpaa.Pure
