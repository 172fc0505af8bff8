/- The document's PutNum and PutVar, and octets' Put functions, as lists of bytes. -/
import Derived.Test.YtlnnghbbjbimoaaPGx2
import Derived.Test.YtlnnghbbjbimoaaPGx6
import Derived.OpenShut
namespace Go.Proofs.Ytlnnghbbjbimoaa.Pure
open Go.RowKit Go.Proofs.Ytlnnghbbjbimoaa.PG Go.Proofs.Ytlnnghbbjbimoaa.OctPut Go.Proofs.YtlnnghbbjbimoaaW.PrintWords Go.Proofs.YtlnnghbbjbimoaaW.PrintLast Go.Proofs.YtlnnghbbjbimoaaW.PrintMore
set_option linter.unusedVariables false
set_option linter.unusedSimpArgs false

theorem owr {x : Int} (h : -9223372036854775808 ≤ x ∧ x < 9223372036854775808) : wrap64 x = x := by unfold wrap64; omega
theorem owru {x : Int} (h : 0 ≤ x ∧ x < 18446744073709551616) : IntKind.u64.wrap x = x := by rw [IntKind.wrap_u64]; omega
theorem str_append (a b : List Int) : strOfNums (a ++ b) = strOfNums a ++ strOfNums b := by
  apply ByteArray.ext
  apply Array.ext'
  simp [strOfNums]
theorem str_nil : strOfNums [] = (⟨#[]⟩ : ByteArray) := rfl
/-- n bytes of a number, the highest first -/
def be : Nat → Int → List Int
  | 0, _ => []
  | n + 1, x => be n (x / 256) ++ [x % 256]
theorem be_length (n : Nat) : ∀ x, (be n x).length = n := by
  induction n with
  | zero => intro x; rfl
  | succ n ih => intro x; simp [be, ih]
theorem putNum_f (n : Nat) : ∀ (k : Nat) (x : Int), 0 ≤ x → x < 18446744073709551616 → n < 1000 → n < k → flashlockref09_PutNum.f k x n = some (strOfNums (be n x)) := by
  induction n with
  | zero =>
    intro k x h0 h1 hn hk
    obtain ⟨k, rfl⟩ : ∃ m, k = m + 1 := ⟨k - 1, by omega⟩
    simp only [flashlockref09_PutNum.f]; rw [if_pos (by simp)]; rfl
  | succ n ih =>
    intro k x h0 h1 hn hk
    obtain ⟨k, rfl⟩ : ∃ m, k = m + 1 := ⟨k - 1, by omega⟩
    simp only [flashlockref09_PutNum.f]
    rw [if_neg (by omega), Int.tdiv_eq_ediv_of_nonneg h0, Int.tmod_eq_emod_of_nonneg h0, owru (by omega), owr (by omega), show ((n + 1 : Nat) : Int) - 1 = (n : Int) from by omega, ih k (x / 256) (by omega) (by omega) (by omega) (by omega)]
    simp only [Option.bind_some]
    rw [if_pos (by rw [strOfNums_size, strOfNums_size, be_length]; simp; omega), ← str_append, show x % 256 % 256 = x % 256 from by omega]
    rfl
theorem putVar_l (n : Nat) : ∀ (k : Nat) (x : Int) (s : List Int), 0 ≤ x → x < 2 ^ (7 * n + 1) → x < 18446744073709551616 → s.length + n ≤ 1000 → n < k → flashlockref09_PutVar.l0 k x (strOfNums s) = some (strOfNums (s ++ vb n x)) := by
  induction n with
  | zero =>
    intro k x s h0 h1 h2 hs hk
    obtain ⟨k, rfl⟩ : ∃ m, k = m + 1 := ⟨k - 1, by omega⟩
    simp only [flashlockref09_PutVar.l0]
    rw [if_neg (by simp at h1; omega)]
    simp only [Option.bind_some]
    rw [if_pos (by rw [strOfNums_size, strOfNums_size]; simp; omega), ← str_append, Int.emod_eq_of_lt h0 (by simp at h1; omega)]; rfl
  | succ n ih =>
    intro k x s h0 h1 h2 hs hk
    obtain ⟨k, rfl⟩ : ∃ m, k = m + 1 := ⟨k - 1, by omega⟩
    simp only [flashlockref09_PutVar.l0]
    by_cases hx : x ≥ 128
    · rw [if_pos hx]
      simp only [Option.bind_some]
      rw [if_pos (by rw [strOfNums_size, strOfNums_size]; simp; omega), ← str_append, Int.tmod_eq_emod_of_nonneg h0, Int.tdiv_eq_ediv_of_nonneg h0, owru (x := x % 128 + 128) (by omega), owru (by omega), Int.emod_eq_of_lt (a := x % 128 + 128) (by omega) (by omega)]
      have h3 : x / 128 < 2 ^ (7 * n + 1) := by
        rw [show 7 * (n + 1) + 1 = 7 * n + 1 + 7 from by omega, Int.pow_add, show (2 : Int) ^ 7 = 128 from by decide] at h1
        omega
      rw [ih k (x / 128) (s ++ [x % 128 + 128]) (by omega) h3 (by omega) (by simp; omega) (by omega), vb_big n (by omega)]
      simp
    · rw [if_neg hx]
      simp only [Option.bind_some]
      rw [if_pos (by rw [strOfNums_size, strOfNums_size]; simp; omega), ← str_append, Int.emod_eq_of_lt h0 (by omega), vb_small _ (by omega)]
theorem putVar_f (k : Nat) (n : Int) (hk : 20 ≤ k) (h : -9223372036854775808 ≤ n ∧ n ≤ 9223372036854775807) : flashlockref09_PutVar.f k n = some (strOfNums (vb 9 (zig n))) := by
  have hz := zig_range h
  obtain ⟨k, rfl⟩ : ∃ m, k = m + 1 := ⟨k - 1, by omega⟩
  have e : flashlockref09_PutVar.j0 (k + 1) (zig n) = some (strOfNums (vb 9 (zig n))) := by
    simp only [flashlockref09_PutVar.j0]
    exact putVar_l 9 k (zig n) [] hz.1 hz.2 hz.2 (by simp) (by omega)
  unfold flashlockref09_PutVar.f
  by_cases hn : n < 0
  · rw [if_pos hn, owr (x := n + 1) (by omega), owr (x := -(n + 1)) (by omega), owru (x := -(n + 1)) (by omega), owru (x := 2 * -(n + 1)) (by omega), owru (x := 2 * -(n + 1) + 1) (by omega)]
    rw [← e]; congr 1; unfold zig; rw [if_neg (by omega)]; omega
  · rw [if_neg hn, owru (x := n) (by omega), owru (x := 2 * n) (by omega)]
    rw [← e]; congr 1; unfold zig; rw [if_pos (by omega)]
theorem vb_length (k : Nat) : ∀ x, (vb k x).length ≤ k + 1 := by
  induction k with
  | zero => intro x; simp [vb]
  | succ k ih =>
    intro x
    by_cases h : x < 128
    · rw [vb_small _ h]; simp
    · rw [vb_big _ h]; simp; exact ih _
theorem oPutVar_f (l : List Int) (n : Int) (hl : l.length ≤ 1000000) (h : -9223372036854775808 ≤ n ∧ n ≤ 9223372036854775807) : octets_PutVar.f l n = some (l ++ vb 9 (zig n)) := by
  unfold octets_PutVar.f; rw [if_pos ⟨by omega, h⟩]
theorem oPutU16_f (l : List Int) (n : Int) (hl : l.length ≤ 1000000) : octets_PutU16.f l n = some (l ++ [n / 256 % 256, n % 256]) := by
  unfold octets_PutU16.f; rw [if_pos (by omega)]
theorem be4 (n : Int) : be 4 n = [n / 65536 / 256 % 256, n / 65536 % 256] ++ [n / 256 % 256, n % 256] := by
  simp only [be, List.nil_append, List.cons_append]
  rw [show n / 256 / 256 / 256 = n / 65536 / 256 from by omega, show n / 256 / 256 = n / 65536 from by omega]
end Go.Proofs.Ytlnnghbbjbimoaa.Pure
