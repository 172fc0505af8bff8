/- filter.questions, walked: the table of seven questions in new memory. -/
import Derived.Test.YtlnnghbbjbimoaaProg
import Derived.Test.YtlnnghbbjbimoaaWWords
import Derived.Test.YtlnnghbbjbimoaaWMore
import Derived.WalkKit
import Derived.Outline
import Derived.WalkLawsBesides
import Derived.WalkSpells
import Derived.Deep.LoopGhost
import Derived.Lib.Hide
import Derived.Laws.EntriesVeiled
namespace Go.Proofs.Ytlnnghbbjbimoaa.FilterQ
open Go.RowKit Go.Proofs.YtlnnghbbjbimoaaW.PrintWords Go.Proofs.YtlnnghbbjbimoaaW.PrintLast Go.Proofs.YtlnnghbbjbimoaaW.PrintMore
set_option linter.unusedVariables false
set_option linter.unusedSimpArgs false
set_option maxRecDepth 100000 in
theorem questions_calls (w : World) : Calls Try.prog 96 #[] w fun e w' => e = .returned (.slice (some ⟨w.heap.size, 0, none⟩) 7 7) ∧ w.alloc (.cells #[.int .i64 2, .func (Fn.func 130) #[] #[], .int .i64 14, .func (Fn.func 131) #[] #[], .int .i64 22, .func (Fn.func 132) #[] #[], .int .i64 6, .func (Fn.func 133) #[] #[], .int .i64 7, .func (Fn.func 135) #[] #[], .int .i64 6, .func (Fn.func 136) #[] #[], .int .i64 15, .func (Fn.func 138) #[] #[]] 130) = w' := by
  go_enter Try.func96, Try.ntmps96
  go_wp2
  go_ret
  exact ⟨rfl, rfl⟩
end Go.Proofs.Ytlnnghbbjbimoaa.FilterQ
