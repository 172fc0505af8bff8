/- Sums, differences and products that are held, and those that may be too great, are the document's: the pure statement behind flashlocklaw01.SatTells, for all integers. -/
import Derived.Test.YtkgcoeagifjbpaaPRefSat
import Derived.Test.YtkgcoeagifjbpaaPAx2
import Derived.Test.YtkgcoeagifjbpaaPAx1
namespace Go.Proofs.Ytkgcoeagifjbpaa.Pure
open Go.RowKit Go.Proofs.Ytkgcoeagifjbpaa.PA Go.Proofs.Ytkgcoeagifjbpaa.SatDiv Go.Proofs.YtkgcoeagifjbpaaW.PrintWords Go.Proofs.YtkgcoeagifjbpaaW.PrintLast Go.Proofs.YtkgcoeagifjbpaaW.PrintMore
set_option linter.unusedVariables false

theorem rmul_pos (k : Nat) (a b : Int) (ha : 0 ≤ hd a) (hb : 0 ≤ hd b) : flashlockref01_Mul.f (k + 1) a b = some (hd (hd a * hd b)) := by
  have h1 := hd_range a; have h2 := hd_range b
  simp only [flashlockref01_Mul.f, rhold_f, Option.bind_some]
  rw [if_neg (by omega), if_neg (by omega)]
  generalize hd a = x at *
  generalize hd b = y at *
  have h0 : 0 ≤ x * y := Int.mul_nonneg ha hb
  have hm := mul_range ha h1.2 hb h2.2
  by_cases hy : y > 0
  · rw [if_pos hy]; simp only [flashlockref01_most.f, Option.bind_some]
    rw [if_neg (by omega), Int.tdiv_eq_ediv_of_nonneg (by omega)]
    have hq0 : 0 ≤ 1152921504606846976 / y := Int.ediv_nonneg (by decide) (by omega)
    have hq1 : 1152921504606846976 / y ≤ 1152921504606846976 := Int.ediv_le_self _ (by decide)
    rw [wr (x := 1152921504606846976 / y) (by omega)]
    have hiff : x ≤ 1152921504606846976 / y ↔ x * y ≤ 1152921504606846976 := Int.le_ediv_iff_mul_le hy
    by_cases hg : x > 1152921504606846976 / y
    · rw [if_pos hg]
      have : hd (x * y) = 1152921504606846976 := by unfold hd; rw [if_neg (by omega)]; split <;> omega
      rw [this]
    · rw [if_neg hg, hd_id (by omega), wr (by omega)]
  · obtain rfl : y = 0 := by omega
    rw [if_neg hy, Int.mul_zero, wr (by omega), hd_id (by omega)]
theorem hd_neg_range {x : Int} : hd (-hd x) = -hd x := hd_id (by have := hd_range x; omega)
theorem rmul_f (k : Nat) (a b : Int) : flashlockref01_Mul.f (k + 3) a b = some (mulV a b) := by
  have h1 := hd_range a; have h2 := hd_range b
  unfold mulV
  by_cases ha : hd a < 0
  · have e : flashlockref01_Mul.f (k + 3) a b = (flashlockref01_Mul.f (k + 2) (wrap64 (-hd a)) (hd b)).bind fun t => some (wrap64 (-t)) := by
      rw [flashlockref01_Mul.f]; simp only [rhold_f, Option.bind_some]; rw [if_pos ha]
    rw [e, wr (x := -hd a) (by omega)]
    have e2 : flashlockref01_Mul.f (k + 2) (-hd a) (hd b) = some (hd (-hd a * hd b)) := by
      by_cases hb : hd b < 0
      · have e : flashlockref01_Mul.f (k + 2) (-hd a) (hd b) = (flashlockref01_Mul.f (k + 1) (hd (-hd a)) (wrap64 (-hd (hd b)))).bind fun t => some (wrap64 (-t)) := by
          rw [flashlockref01_Mul.f]; simp only [rhold_f, Option.bind_some]; rw [hd_neg_range, hd_hd, if_neg (by omega), if_pos hb]
        rw [e, wr (by rw [hd_hd]; omega), hd_hd, rmul_pos _ _ _ (by rw [hd_neg_range, hd_neg_range]; omega) (by rw [hd_neg_range]; omega)]
        simp only [Option.bind_some, hd_neg_range]
        have := hd_range (-hd a * -hd b)
        rw [wr (by omega), ← hd_neg, Int.mul_neg, Int.neg_neg]
      · rw [rmul_pos _ _ _ (by rw [hd_neg_range]; omega) (by rw [hd_hd]; omega), hd_neg_range, hd_hd]
    rw [e2]; simp only [Option.bind_some]
    have := hd_range (-hd a * hd b)
    rw [wr (by omega), ← hd_neg, Int.neg_mul, Int.neg_neg]
  · by_cases hb : hd b < 0
    · have e : flashlockref01_Mul.f (k + 3) a b = (flashlockref01_Mul.f (k + 2) (hd a) (wrap64 (-hd b))).bind fun t => some (wrap64 (-t)) := by
        rw [flashlockref01_Mul.f]; simp only [rhold_f, Option.bind_some]; rw [if_neg ha, if_pos hb]
      rw [e, wr (x := -hd b) (by omega), rmul_pos _ _ _ (by rw [hd_hd]; omega) (by rw [hd_neg_range]; omega), hd_hd, hd_neg_range]
      simp only [Option.bind_some]
      have := hd_range (hd a * -hd b)
      rw [wr (by omega), ← hd_neg, Int.mul_neg, Int.neg_neg]
    · exact rmul_pos _ _ _ (by omega) (by omega)
theorem wr_cases (x : Int) (h : -18446744073709551616 ≤ x ∧ x < 18446744073709551616) : wrap64 x = if x < -9223372036854775808 then x + 18446744073709551616 else if x < 9223372036854775808 then x else x - 18446744073709551616 := by
  unfold wrap64; split
  · omega
  · split <;> omega
theorem sum_f (a b : Int) (ha : -9223372036854775808 ≤ a ∧ a ≤ 9223372036854775807) (hb : -9223372036854775808 ≤ b ∧ b ≤ 9223372036854775807) :
    sat_Sum.f a b = some (if -9223372036854775808 ≤ a + b ∧ a + b ≤ 9223372036854775807 then (a + b, true) else (0, false)) ∧ flashlockref01_Sum.f a b = sat_Sum.f a b := by
  have e : sat_Sum.f a b = some (if -9223372036854775808 ≤ a + b ∧ a + b ≤ 9223372036854775807 then (a + b, true) else (0, false)) := by
    unfold sat_Sum.f
    by_cases h : -9223372036854775808 ≤ a + b ∧ a + b ≤ 9223372036854775807
    · rw [if_pos h, wr (by omega)]
      split
      · rename_i h1
        rw [if_neg (by simp at h1 ⊢; omega)]
      · rfl
    · rw [if_neg h, wr_cases _ (by omega)]
      rw [if_pos (by simp; omega)]
      have : (decide ((if a + b < -9223372036854775808 then a + b + 18446744073709551616 else if a + b < 9223372036854775808 then a + b else a + b - 18446744073709551616) < 0) != decide (a < 0)) = true := by
        split
        · simp; omega
        · rw [if_neg (by omega)]; simp; omega
      rw [if_pos this]
  refine ⟨e, ?_⟩
  rw [e]
  unfold flashlockref01_Sum.f
  by_cases hp : b > 0
  · rw [if_pos hp, wr (x := 9223372036854775807 - b) (by omega)]
    by_cases h : a > 9223372036854775807 - b
    · rw [if_pos h, if_neg (by omega)]
    · rw [if_neg h, if_neg (by omega), if_pos (by omega), wr (by omega)]
  · rw [if_neg hp]
    by_cases hn : b < 0
    · rw [if_pos hn, wr (x := -9223372036854775808 - b) (by omega)]
      by_cases h : a < -9223372036854775808 - b
      · rw [if_pos h, if_neg (by omega)]
      · rw [if_neg h, if_pos (by omega), wr (by omega)]
    · rw [if_neg hn, if_pos (by omega), wr (by omega)]
theorem diff_f (a b : Int) (ha : -9223372036854775808 ≤ a ∧ a ≤ 9223372036854775807) (hb : -9223372036854775808 ≤ b ∧ b ≤ 9223372036854775807) :
    sat_Diff.f a b = some (if -9223372036854775808 ≤ a - b ∧ a - b ≤ 9223372036854775807 then (a - b, true) else (0, false)) ∧ flashlockref01_Diff.f a b = sat_Diff.f a b := by
  have e : sat_Diff.f a b = some (if -9223372036854775808 ≤ a - b ∧ a - b ≤ 9223372036854775807 then (a - b, true) else (0, false)) := by
    unfold sat_Diff.f
    by_cases h : -9223372036854775808 ≤ a - b ∧ a - b ≤ 9223372036854775807
    · rw [if_pos h, wr (by omega)]
      split
      · rename_i h1
        rw [if_neg (by simp at h1 ⊢; omega)]
      · rfl
    · rw [if_neg h, wr_cases _ (by omega)]
      rw [if_pos (by simp; omega)]
      have : (decide ((if a - b < -9223372036854775808 then a - b + 18446744073709551616 else if a - b < 9223372036854775808 then a - b else a - b - 18446744073709551616) < 0) != decide (a < 0)) = true := by
        split
        · simp; omega
        · rw [if_neg (by omega)]; simp; omega
      rw [if_pos this]
  refine ⟨e, ?_⟩
  rw [e]
  unfold flashlockref01_Diff.f
  by_cases hp : b < 0
  · rw [if_pos hp, wr (x := 9223372036854775807 + b) (by omega)]
    by_cases h : a > 9223372036854775807 + b
    · rw [if_pos h, if_neg (by omega)]
    · rw [if_neg h, if_neg (by omega), if_pos (by omega), wr (by omega)]
  · rw [if_neg hp]
    by_cases hn : b > 0
    · rw [if_pos hn, wr (x := -9223372036854775808 + b) (by omega)]
      by_cases h : a < -9223372036854775808 + b
      · rw [if_pos h, if_neg (by omega)]
      · rw [if_neg h, if_pos (by omega), wr (by omega)]
    · rw [if_neg hn, if_pos (by omega), wr (by omega)]
theorem sat_lives : flashlocklaw01_lives.f = some true := by decide +kernel
theorem SatTells : flashlocklaw01_SatTells.Pure := by
  intro a b ha hb
  have ha := bounds_i64 ha; have hb := bounds_i64 hb
  obtain ⟨s1, s2⟩ := sum_f a b ha hb
  obtain ⟨d1, d2⟩ := diff_f a b ha hb
  refine ⟨0 + 3, ?_⟩
  unfold flashlocklaw01_SatTells.f
  rw [s2, d2, s1, d1, radd_f, rsub_f, rhold_f, rmul_f]
  simp only [sat_Hold.f, sat_Add.f, sat_Sub.f, sat_Mul.f, Option.bind_some, if_true, sat_lives, beq_self_eq_true]
end Go.Proofs.Ytkgcoeagifjbpaa.Pure
