/- The document's Num: its value. -/
import Derived.Test.YtlnnghbbjbimoaaNum
import Derived.Test.YtlnnghbbjbimoaaPVx3
namespace Go.Proofs.Ytlnnghbbjbimoaa.NumV
open Go Go.RowKit Go.Proofs.Ytlnnghbbjbimoaa.PV Go.Proofs.Ytlnnghbbjbimoaa.Reader Go.Proofs.Ytlnnghbbjbimoaa.PNum Go.Proofs.Ytlnnghbbjbimoaa.Num Go.Proofs.YtlnnghbbjbimoaaW.PrintWords Go.Proofs.YtlnnghbbjbimoaaW.PrintLast Go.Proofs.YtlnnghbbjbimoaaW.PrintMore
set_option linter.unusedVariables false
set_option linter.unusedSimpArgs false
theorem num_l (s y : ByteArray) (z : Int) (hs : s.size ≤ 8) (d : Nat) : ∀ (k j : Nat), j + d = s.size → d < k → flashlockref09_Num.l0 k s (nm s 0 j) j y z = some (y, z, nm s 0 s.size) := by
  induction d with
  | zero =>
    intro k j h hk
    obtain ⟨k, rfl⟩ : ∃ m, k = m + 1 := ⟨k - 1, by omega⟩
    simp only [flashlockref09_Num.l0]
    rw [if_neg (by omega), show j = s.size from by omega]
  | succ d ih =>
    intro k j h hk
    obtain ⟨k, rfl⟩ : ∃ m, k = m + 1 := ⟨k - 1, by omega⟩
    have hr := nm_range s 0 j; have hb := bt_r s j
    have hp : (256 : Int) ^ j ≤ 72057594037927936 := by
      have h8 : ∀ q : Fin 8, (256 : Int) ^ (q : Nat) ≤ 72057594037927936 := by decide
      exact h8 ⟨j, by omega⟩
    simp only [flashlockref09_Num.l0]
    rw [if_pos (by omega), if_pos (by omega), owru (x := 256 * nm s 0 j) (by omega), owru (x := bt s j) (by omega), owru (x := 256 * nm s 0 j + bt s j) (by omega), owr (x := (j : Int) + 1) (by omega)]
    have e : 256 * nm s 0 j + bt s j = nm s 0 (j + 1) := by simp only [nm, Int.zero_add]; omega
    rw [e, show (j : Int) + 1 = ((j + 1 : Nat) : Int) from by omega]
    exact ih k (j + 1) (by omega) (by omega)
theorem ext_ext (s : ByteArray) (a w : Nat) (h : a + w ≤ s.size) : (s.extract a s.size).extract w (s.size - a) = s.extract (a + w) s.size := by
  apply ByteArray.ext
  simp only [ByteArray.data_extract]
  rw [Array.extract_extract]
  congr 1
  omega
theorem num_v (k : Nat) (hk : 20 ≤ k) (s : ByteArray) (a w : Nat) (hw : w ≤ 8) (ha : a ≤ s.size) : flashlockref09_Num.f k (s.extract a s.size) 0 w = some (if (a : Int) + w ≤ s.size then (s.extract (a + w) s.size, 0, nm s a w) else (s.extract a s.size, 5, 0)) := by
  have hz : (s.extract a s.size).size = s.size - a := by rw [ByteArray.size_extract]; omega
  unfold flashlockref09_Num.f flashlockref09_Take.f
  rw [if_pos rfl, if_neg (by omega)]
  by_cases h : (a : Int) + w ≤ s.size
  · rw [if_pos h, if_neg (by omega), if_pos (by omega), if_pos (by omega), Option.bind_some, show ((w : Int)).toNat = w from by omega, hz, ext_ext s a w (by omega)]
    have e : (s.extract a s.size).extract 0 w = s.extract a (a + w) := by
      apply ByteArray.ext
      simp only [ByteArray.data_extract]
      rw [Array.extract_extract]
      congr 1
      omega
    have hq : (s.extract a (a + w)).size = w := by rw [ByteArray.size_extract]; omega
    have := num_l (s.extract a (a + w)) (s.extract (a + w) s.size) 0 (by omega) w k 0 (by omega) (by omega)
    simp only [nm] at this
    rw [show ((0 : Nat) : Int) = 0 from rfl] at this
    rw [e]
    simp only
    rw [this, hq, nm_ext s a (a + w) (by omega) w (by omega)]
  · rw [if_neg h, if_pos (by omega), Option.bind_some]
    obtain ⟨k, rfl⟩ : ∃ m, k = m + 1 := ⟨k - 1, by omega⟩
    simp only [flashlockref09_Num.l0]
    rw [if_neg (by show ¬ (0 : Int) < ((⟨#[]⟩ : ByteArray).size : Int); decide)]
theorem num_e (k : Nat) (hk : 1 ≤ k) (S : ByteArray) (E w : Int) (hE : E ≠ 0) : flashlockref09_Num.f k S E w = some (S, E, 0) := by
  unfold flashlockref09_Num.f flashlockref09_Take.f
  rw [if_neg hE, Option.bind_some]
  obtain ⟨k, rfl⟩ : ∃ m, k = m + 1 := ⟨k - 1, by omega⟩
  simp only [flashlockref09_Num.l0]
  rw [if_neg (by show ¬ (0 : Int) < ((⟨#[]⟩ : ByteArray).size : Int); decide)]
/-- all of a short text is a number -/
theorem num_all (k : Nat) (hk : 20 ≤ k) (q : ByteArray) (hq : q.size ≤ 8) : ∃ y z, flashlockref09_Num.f k q 0 (q.size : Int) = some (y, z, nm q 0 q.size) := by
  have h := num_v k hk q 0 q.size hq (by omega)
  rw [ext_all, if_pos (by omega)] at h
  exact ⟨_, _, h⟩
end Go.Proofs.Ytlnnghbbjbimoaa.NumV
