/- PortsTells, the plain law. -/
import Derived.Test.YtlnnghbbjbimoaaPortsV
import Derived.Test.YtlnnghbbjbimoaaPQx2
import Derived.Test.YtlnnghbbjbimoaaPQx1
namespace Go.Proofs.Ytlnnghbbjbimoaa.Pure
open Go Go.RowKit Go.Proofs.Ytlnnghbbjbimoaa.PQ Go.Proofs.Ytlnnghbbjbimoaa.PNum Go.Proofs.Ytlnnghbbjbimoaa.Reader Go.Proofs.Ytlnnghbbjbimoaa.PortsOf Go.Proofs.Ytlnnghbbjbimoaa.PortsV Go.Proofs.YtlnnghbbjbimoaaW.PrintWords Go.Proofs.YtlnnghbbjbimoaaW.PrintLast Go.Proofs.YtlnnghbbjbimoaaW.PrintMore
theorem PortsTells : flashlocklaw13_PortsTells.Pure := by
  intro p s hp hs
  refine ⟨2, ?_⟩
  unfold flashlocklaw13_PortsTells.f
  by_cases hl : (s.size : Int) > 200
  · rw [if_pos hl, lives_v]; rfl
  · rw [if_neg hl]
    have e : ports_Of.f p s = some (pv p s) := by unfold ports_Of.f; rw [if_pos (by omega)]
    rw [e, Option.bind_some, ref_v 1 p s, Option.bind_some]
    by_cases h6 : p = 6
    · subst h6
      rw [if_pos rfl]
      simp [flashlocklaw13_PortsTells.j0, ports_Has.f, ports_Least.f, lives_v]
    · rw [if_neg h6]
      by_cases h7 : p = 17
      · subst h7
        simp [flashlocklaw13_PortsTells.j0, ports_Has.f, ports_Least.f, lives_v]
      · simp [flashlocklaw13_PortsTells.j0, ports_Has.f, ports_Least.f, lives_v, h6, h7]
end Go.Proofs.Ytlnnghbbjbimoaa.Pure
