/- The document's right of sat: walked. -/
import Derived.Test.YtkgcoeagifjbpaaSatMul
namespace Go.Proofs.Ytkgcoeagifjbpaa.SatDiv
open Go.RowKit Go.Proofs.YtkgcoeagifjbpaaW.PrintWords Go.Proofs.YtkgcoeagifjbpaaW.PrintLast Go.Proofs.YtkgcoeagifjbpaaW.PrintMore
set_option linter.unusedVariables false
set_option linter.unusedSimpArgs false
theorem rright_calls (a b c : Int) (w : World) : Calls Try.prog 72 #[.int .i64 a, .int .i64 b, .int .i64 c] w fun e w' => e = .returned (.bool (okB a b c)) ∧ w = w' := by
  obtain ⟨t, ht⟩ : ∃ t, t = okB a b c := ⟨_, rfl⟩
  rw [← ht]
  unfold okB at ht
  by_cases h1 : 0 ≤ a
  · by_cases h3 : 0 ≤ b
    · by_cases h5 : 1 ≤ c
      · by_cases h2 : a ≤ 1152921504606846976
        · by_cases h4 : b ≤ 1152921504606846976
          · by_cases h6 : c ≤ 1152921504606846976
            · obtain rfl : t = true := by rw [ht]; simp [h1, h2, h3, h4, h5, h6]
              clear ht
              go_enter Try.func72, Try.ntmps72
              go_wp2
              go_ret
              exact ⟨by simp [h6], rfl⟩
            · obtain rfl : t = false := by rw [ht]; simp [h6]
              clear ht
              go_enter Try.func72, Try.ntmps72
              go_wp2
              go_ret
              exact ⟨by first | rfl | simp | (simp; omega), rfl⟩
          · obtain rfl : t = false := by rw [ht]; simp [h4]
            clear ht
            go_enter Try.func72, Try.ntmps72
            go_wp2
            go_ret
            exact ⟨rfl, rfl⟩
        · obtain rfl : t = false := by rw [ht]; simp [h2]
          clear ht
          go_enter Try.func72, Try.ntmps72
          go_wp2
          go_ret
          exact ⟨rfl, rfl⟩
      · obtain rfl : t = false := by rw [ht]; simp [h5]
        clear ht
        go_enter Try.func72, Try.ntmps72
        go_wp2
        go_ret
        exact ⟨rfl, rfl⟩
    · obtain rfl : t = false := by rw [ht]; simp [h3]
      clear ht
      go_enter Try.func72, Try.ntmps72
      go_wp2
      go_ret
      exact ⟨rfl, rfl⟩
  · obtain rfl : t = false := by rw [ht]; simp [h1]
    clear ht
    go_enter Try.func72, Try.ntmps72
    go_wp2
    go_ret
    exact ⟨rfl, rfl⟩
end Go.Proofs.Ytkgcoeagifjbpaa.SatDiv
