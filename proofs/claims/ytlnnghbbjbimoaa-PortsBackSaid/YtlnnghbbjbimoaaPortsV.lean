/- The plain values of the document's ports. -/
import Derived.Test.YtlnnghbbjbimoaaPNum
import Derived.Test.YtlnnghbbjbimoaaPQx1
namespace Go.Proofs.Ytlnnghbbjbimoaa.PortsV
open Go Go.RowKit Go.Proofs.Ytlnnghbbjbimoaa.PQ Go.Proofs.Ytlnnghbbjbimoaa.PNum Go.Proofs.Ytlnnghbbjbimoaa.Reader Go.Proofs.Ytlnnghbbjbimoaa.PortsOf Go.Proofs.YtlnnghbbjbimoaaW.PrintWords Go.Proofs.YtlnnghbbjbimoaaW.PrintLast Go.Proofs.YtlnnghbbjbimoaaW.PrintMore
set_option linter.unusedVariables false
set_option linter.unusedSimpArgs false
theorem nm2 (s : ByteArray) (a : Int) : nm s a 2 = 256 * bt s a + bt s (a + 1) := by simp [nm]; omega
theorem nm1 (s : ByteArray) (a : Int) : nm s a 1 = bt s a := by simp [nm]
theorem two_v (s : ByteArray) (a : Int) (h0 : 0 ≤ a) (h1 : a + 1 < s.size) (h2 : a < 1000) : flashlockref13_two.f s a = some (nm s a 2) := by
  have r1 := bt_r s a; have r2 := bt_r s (a + 1)
  unfold flashlockref13_two.f
  rw [owr (x := a + 1) (by omega), if_pos h0, if_pos (by omega), if_pos (by omega), if_pos h1, owr (x := bt s a) (by omega), owr (x := bt s (a + 1)) (by omega), owr (x := 256 * bt s a) (by omega), owr (by omega), nm2]
theorem ref_v (k : Nat) (p : Int) (s : ByteArray) : flashlockref13_Of.f (k + 1) p s = some (pv p s) := by
  have r1 := bt_r s 12
  have e1 : 4 * (Int.tdiv (bt s 12) 16 % 256) = nm s 12 1 / 16 * 4 := by rw [nm1, Int.tdiv_eq_ediv_of_nonneg (by omega)]; omega
  unfold flashlockref13_Of.f pv
  rw [e1]
  by_cases h6 : p = 6
  · rw [if_pos h6, if_pos h6]
    by_cases hl : s.size < 20
    · rw [if_pos hl, if_pos (by omega)]
    · rw [if_neg hl, if_neg (by omega), if_pos (by omega)]
      by_cases h1 : nm s 12 1 / 16 * 4 < 20
      · rw [if_pos h1, if_neg (by omega)]; simp only [flashlockref13_Of.j0]; rfl
      · rw [if_neg h1]
        by_cases h2 : nm s 12 1 / 16 * 4 > (s.size : Int)
        · rw [if_neg (by omega)]; simp only [flashlockref13_Of.j0]; rw [if_pos (by simpa using h2)]
        · rw [if_pos (by omega)]; simp only [flashlockref13_Of.j0]; rw [if_neg (by simpa using h2), two_v s 0 (by omega) (by omega) (by omega), Option.bind_some, two_v s 2 (by omega) (by omega) (by omega), Option.bind_some]
  · rw [if_neg h6, if_neg h6]
    by_cases h7 : p = 17
    · rw [if_pos h7, if_pos h7]
      by_cases hl : s.size < 8
      · rw [if_pos hl, if_pos (by omega)]
      · rw [if_neg hl, if_neg (by omega), two_v s 4 (by omega) (by omega) (by omega)]
        simp only [Option.bind_some]
        by_cases h1 : nm s 4 2 < 8
        · rw [if_pos h1, if_neg (by omega)]; simp only [flashlockref13_Of.j1]; rfl
        · rw [if_neg h1]
          by_cases h2 : nm s 4 2 > (s.size : Int)
          · rw [if_neg (by omega)]; simp only [flashlockref13_Of.j1]; rw [if_pos (by simpa using h2)]
          · rw [if_pos (by omega)]; simp only [flashlockref13_Of.j1]; rw [if_neg (by simpa using h2), two_v s 0 (by omega) (by omega) (by omega), Option.bind_some, two_v s 2 (by omega) (by omega) (by omega), Option.bind_some]
    · rw [if_neg h7, if_neg h7]
theorem lives_v : flashlocklaw13_lives.f = some true := by kernel_rfl
end Go.Proofs.Ytlnnghbbjbimoaa.PortsV
