/- The document's PutNum, as a list of bytes. -/
import Derived.Test.YtlnnghbbjbimoaaBe
import Derived.Test.YtlnnghbbjbimoaaPBx4
import Derived.OpenShut
namespace Go.Proofs.Ytlnnghbbjbimoaa.PNum
open Go.RowKit Go.Proofs.Ytlnnghbbjbimoaa.PB Go.Proofs.YtlnnghbbjbimoaaW.PrintWords Go.Proofs.YtlnnghbbjbimoaaW.PrintLast Go.Proofs.YtlnnghbbjbimoaaW.PrintMore
set_option linter.unusedVariables false
set_option linter.unusedSimpArgs false

theorem putNum_f (n : Nat) : ∀ (k : Nat) (x : Int), 0 ≤ x → x < 18446744073709551616 → n < 1000 → n < k → flashlockref09_PutNum.f k x n = some (strOfNums (be n x)) := by
  induction n with
  | zero =>
    intro k x h0 h1 hn hk
    obtain ⟨k, rfl⟩ : ∃ m, k = m + 1 := ⟨k - 1, by omega⟩
    simp only [flashlockref09_PutNum.f]; rw [if_pos (by simp)]; rfl
  | succ n ih =>
    intro k x h0 h1 hn hk
    obtain ⟨k, rfl⟩ : ∃ m, k = m + 1 := ⟨k - 1, by omega⟩
    simp only [flashlockref09_PutNum.f]
    rw [if_neg (by omega), Int.tdiv_eq_ediv_of_nonneg h0, Int.tmod_eq_emod_of_nonneg h0, owru (by omega), owr (by omega), show ((n + 1 : Nat) : Int) - 1 = (n : Int) from by omega, ih k (x / 256) (by omega) (by omega) (by omega) (by omega)]
    simp only [Option.bind_some]
    rw [if_pos (by rw [strOfNums_size, strOfNums_size, be_length]; simp; omega), ← str_append, show x % 256 % 256 = x % 256 from by omega]
    rfl
end Go.Proofs.Ytlnnghbbjbimoaa.PNum
