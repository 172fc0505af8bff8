-- written by wip/tools/pr.py over the kit's print.py, out of the translation; Lean checks it
import Derived.Test.YtkgcoeagifjbpaaProg
import Derived.Below
import Derived.Deep.Draws
import Derived.Deep.AppendLies
import Derived.Maps.AppendAt
import Derived.OwnWalk
import Derived.Laws.BytesArg
import Derived.Laws.MakeOwn
import Derived.Laws.OwnMore
import Derived.Deep.OwnRows
import Derived.Tactics
import Derived.Lib.ConvBytes
import Derived.Laws.Slices
import Derived.WalkKit
import Derived.KernelRfl
import Derived.RowKit3
import Derived.Deep.LoopGhost
import Derived.Deep.QuietTactic
import Derived.BigQuiet
import Derived.WideLaws
import Derived.Deep.DeepCutAuto
import Derived.Deep.CutBlock
import Derived.Deep.RegionHeld3
import Derived.Laws.Rows
import Derived.Lib.AppendStr
import Derived.ArgAppend
import Derived.Laws.IdiomCopy
import Derived.OrdersHeld
import Derived.Laws.BitsLemmas
import Derived.RowKit
import Derived.Test.YtkgcoeagifjbpaaOctPut
import Derived.Test.YtkgcoeagifjbpaaWWords
import Derived.Test.YtkgcoeagifjbpaaWLast
import Derived.Test.YtkgcoeagifjbpaaWTab
import Derived.Test.YtkgcoeagifjbpaaWFour
import Derived.Test.YtkgcoeagifjbpaaWQPut
import Derived.Test.YtkgcoeagifjbpaaWApart
import Derived.Test.YtkgcoeagifjbpaaWArr
import Derived.Test.YtkgcoeagifjbpaaWZeros
import Derived.Test.YtkgcoeagifjbpaaWFoot
import Derived.Test.YtkgcoeagifjbpaaWKept
import Derived.Test.YtkgcoeagifjbpaaWShare
import Derived.Test.YtkgcoeagifjbpaaWN
import Derived.Test.YtkgcoeagifjbpaaWFootNe
import Derived.Test.YtkgcoeagifjbpaaWAt
import Derived.Test.YtkgcoeagifjbpaaWEqStruct
import Derived.Test.YtkgcoeagifjbpaaWRepsOne
import Derived.Test.YtkgcoeagifjbpaaWInv
import Derived.Test.YtkgcoeagifjbpaaWInvWords
import Derived.Test.YtkgcoeagifjbpaaWGuard
import Derived.Test.YtkgcoeagifjbpaaWNEv
import Derived.Test.YtkgcoeagifjbpaaWMore
namespace Go.Proofs.Ytkgcoeagifjbpaa.PR
open Go.RowKit Go.Proofs.YtkgcoeagifjbpaaW.PrintWords Go.Proofs.YtkgcoeagifjbpaaW.PrintLast Go.Proofs.YtkgcoeagifjbpaaW.PrintMore
attribute [local go_sem] max2_int min2_int max_two min_two max_three min_three max_four min_four   -- for this text's walks alone
set_option linter.unusedVariables false
set_option linter.unusedSimpArgs false



def errW : Option Int → Value
  | none => .nilIface
  | some c => .iface 0 (.int .i64 c)
theorem errW_none : errW none = .nilIface := rfl
theorem errW_some (c : Int) : errW (some c) = .iface 0 (.int .i64 c) := rfl

theorem info3 : (Try.prog.info? 3).map (fun i => (i.zero, i.size, i.bytes)) = some (some (.int .i64 0), 1, 8) := by kernel_rfl
theorem info5 : (Try.prog.info? 5).map (fun i => (i.zero, i.size, i.bytes)) = some (some (.int .u8 0), 1, 1) := by kernel_rfl
-- the values' own types

end Go.Proofs.Ytkgcoeagifjbpaa.PR
