-- written by wip/tools/pr.py over the kit's print.py, out of the translation; Lean checks it
import Derived.Test.YtlnnghbbjbimoaaProg
import Derived.Below
import Derived.Deep.Draws
import Derived.Deep.AppendLies
import Derived.Maps.AppendAt
import Derived.OwnWalk
import Derived.Laws.BytesArg
import Derived.Laws.MakeOwn
import Derived.Laws.OwnMore
import Derived.Deep.OwnRows
import Derived.Tactics
import Derived.Lib.ConvBytes
import Derived.Laws.Slices
import Derived.WalkKit
import Derived.KernelRfl
import Derived.RowKit3
import Derived.Deep.LoopGhost
import Derived.Deep.QuietTactic
import Derived.BigQuiet
import Derived.WideLaws
import Derived.Deep.DeepCutAuto
import Derived.Deep.CutBlock
import Derived.Deep.RegionHeld3
import Derived.Laws.Rows
import Derived.Lib.AppendStr
import Derived.ArgAppend
import Derived.Laws.IdiomCopy
import Derived.OrdersHeld
import Derived.Laws.BitsLemmas
import Derived.RowKit
import Derived.Test.YtlnnghbbjbimoaaFilterQ
import Derived.Test.YtlnnghbbjbimoaaWWords
import Derived.Test.YtlnnghbbjbimoaaWLast
import Derived.Test.YtlnnghbbjbimoaaWTab
import Derived.Test.YtlnnghbbjbimoaaWFour
import Derived.Test.YtlnnghbbjbimoaaWQPut
import Derived.Test.YtlnnghbbjbimoaaWApart
import Derived.Test.YtlnnghbbjbimoaaWArr
import Derived.Test.YtlnnghbbjbimoaaWZeros
import Derived.Test.YtlnnghbbjbimoaaWFoot
import Derived.Test.YtlnnghbbjbimoaaWKept
import Derived.Test.YtlnnghbbjbimoaaWShare
import Derived.Test.YtlnnghbbjbimoaaWN
import Derived.Test.YtlnnghbbjbimoaaWFootNe
import Derived.Test.YtlnnghbbjbimoaaWAt
import Derived.Test.YtlnnghbbjbimoaaWEqStruct
import Derived.Test.YtlnnghbbjbimoaaWRepsOne
import Derived.Test.YtlnnghbbjbimoaaWInv
import Derived.Test.YtlnnghbbjbimoaaWInvWords
import Derived.Test.YtlnnghbbjbimoaaWGuard
import Derived.Test.YtlnnghbbjbimoaaWNEv
import Derived.Test.YtlnnghbbjbimoaaWMore
namespace Go.Proofs.Ytlnnghbbjbimoaa.PF
open Go.RowKit Go.Proofs.YtlnnghbbjbimoaaW.PrintWords Go.Proofs.YtlnnghbbjbimoaaW.PrintLast Go.Proofs.YtlnnghbbjbimoaaW.PrintMore
attribute [local go_sem] max2_int min2_int max_two min_two max_three min_three max_four min_four   -- for this text's walks alone
set_option linter.unusedVariables false
set_option linter.unusedSimpArgs false



def errW : Option Int → Value
  | none => .nilIface
  | some c => .iface 0 (.int .i64 c)
theorem errW_none : errW none = .nilIface := rfl
theorem errW_some (c : Int) : errW (some c) = .iface 0 (.int .i64 c) := rfl

-- the values' own types

end Go.Proofs.Ytlnnghbbjbimoaa.PF
