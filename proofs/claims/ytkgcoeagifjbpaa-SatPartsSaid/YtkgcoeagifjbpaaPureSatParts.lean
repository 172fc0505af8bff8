/- Products that are divided, rounded down and up, are the document's: the pure statement behind flashlocklaw01.SatParts, for all integers. -/
import Derived.Test.YtkgcoeagifjbpaaPRefSat
import Derived.Test.YtkgcoeagifjbpaaPAx3
import Derived.Test.YtkgcoeagifjbpaaPAx2
import Derived.Test.YtkgcoeagifjbpaaPAx1
namespace Go.Proofs.Ytkgcoeagifjbpaa.Pure
open Go.RowKit Go.Proofs.Ytkgcoeagifjbpaa.PA Go.Proofs.Ytkgcoeagifjbpaa.SatDiv Go.Proofs.YtkgcoeagifjbpaaW.PrintWords Go.Proofs.YtkgcoeagifjbpaaW.PrintLast Go.Proofs.YtkgcoeagifjbpaaW.PrintMore
set_option linter.unusedVariables false

theorem parts_lives : flashlocklaw01_lives.f = some true := by decide +kernel
theorem rright_f (a b c : Int) : flashlockref01_right.f a b c = some (okB a b c) := rfl
/-- held at twice the bound -/
def two (q : Int) : Int := if q > 2305843009213693952 then 2305843009213693952 else q
theorem step_j (k : Nat) (c q r : Int) (hc : 1 ≤ c) (hc1 : c ≤ 1152921504606846976) (hq0 : 0 ≤ q) (hq1 : q ≤ 6917529027641081856) (hr0 : 0 ≤ r) (hr1 : r < 3 * c) :
    flashlockref01_part.j0 (k + 1) c q r = some (two (q + r / c), r % c) := by
  have hd0 : 0 ≤ r / c := Int.ediv_nonneg hr0 (by omega)
  have hd1 : r / c < 3 := Int.ediv_lt_of_lt_mul (by omega) hr1
  simp only [flashlockref01_part.j0, flashlockref01_most.f, Option.bind_some]
  rw [if_neg (by omega), Int.tdiv_eq_ediv_of_nonneg hr0, Int.tmod_eq_emod_of_nonneg hr0, wr (x := r / c) (by omega), wr (x := q + r / c) (by omega), wr (x := 2 * 1152921504606846976) (by omega)]
  unfold two
  by_cases h : q + r / c > 2305843009213693952
  · rw [if_pos (by omega), if_pos h]; rfl
  · rw [if_neg (by omega), if_neg h]
/-- the quotient and the rest of the whole, out of the half's -/
theorem whole {h b c : Int} {odd : Int} (hc : 1 ≤ c) (hh : 0 ≤ h) (hb : 0 ≤ b) (ho : odd = 0 ∨ odd = 1) :
    (2 * h + odd) * b / c = 2 * (h * b / c) + odd * (b / c) + (2 * (h * b % c) + odd * (b % c)) / c ∧ (2 * h + odd) * b % c = (2 * (h * b % c) + odd * (b % c)) % c := by
  have e1 := Int.emod_add_mul_ediv (h * b) c
  have e2 := Int.emod_add_mul_ediv b c
  have e : (2 * h + odd) * b = (2 * (h * b % c) + odd * (b % c)) + c * (2 * (h * b / c) + odd * (b / c)) := by
    rw [Int.add_mul, Int.mul_assoc]
    rw [Int.mul_add c, Int.mul_left_comm c 2]
    rcases ho with rfl | rfl
    · simp; omega
    · simp; omega
  rw [e]
  constructor
  · rw [Int.add_mul_ediv_left _ _ (by omega)]; omega
  · rw [Int.add_mul_emod_self_left]
theorem rpart_f (b c : Int) (hb : 0 ≤ b) (hb1 : b ≤ 1152921504606846976) (hc : 1 ≤ c) (hc1 : c ≤ 1152921504606846976) (n : Nat) : ∀ (k : Nat) (a : Int), 0 ≤ a → a < 2 ^ n → a ≤ 1152921504606846976 → n + 2 ≤ k →
    flashlockref01_part.f k a b c = some (two (a * b / c), a * b % c) := by
  induction n with
  | zero =>
    intro k a h0 h1 _ hk
    obtain ⟨k, rfl⟩ : ∃ m, k = m + 1 := ⟨k - 1, by omega⟩
    obtain rfl : a = 0 := by simp at h1; omega
    simp only [flashlockref01_part.f]; rw [if_pos trivial]; simp [two]
  | succ n ih =>
    intro k a h0 h1 h2 hk
    obtain ⟨k, rfl⟩ : ∃ m, k = m + 1 := ⟨k - 1, by omega⟩
    simp only [flashlockref01_part.f]
    by_cases hz : a = 0
    · rw [if_pos hz, hz]; simp [two]
    · rw [if_neg hz, Int.tdiv_eq_ediv_of_nonneg h0, Int.tmod_eq_emod_of_nonneg h0, wr (x := a / 2) (by omega), ih k (a / 2) (by omega) (by rw [Int.pow_succ] at h1; omega) (by omega) (by omega)]
      simp only [Option.bind_some]
      have hq0 : 0 ≤ a / 2 * b / c := Int.ediv_nonneg (Int.mul_nonneg (by omega) hb) (by omega)
      have hr0 : 0 ≤ a / 2 * b % c := Int.emod_nonneg _ (by omega)
      have hr1 : a / 2 * b % c < c := Int.emod_lt_of_pos _ (by omega)
      have ht : 0 ≤ two (a / 2 * b / c) ∧ two (a / 2 * b / c) ≤ 2305843009213693952 ∧ (two (a / 2 * b / c) = a / 2 * b / c ∨ two (a / 2 * b / c) = 2305843009213693952 ∧ 2305843009213693952 < a / 2 * b / c) := by unfold two; split <;> omega
      obtain ⟨k, rfl⟩ : ∃ m, k = m + 1 := ⟨k - 1, by omega⟩
      by_cases ho : a % 2 = 1
      · rw [if_pos ho, if_neg (by omega), Int.tdiv_eq_ediv_of_nonneg hb, Int.tmod_eq_emod_of_nonneg hb]
        have hbq : 0 ≤ b / c := Int.ediv_nonneg hb (by omega)
        have hbq1 : b / c ≤ b := Int.ediv_le_self _ hb
        have hbr0 : 0 ≤ b % c := Int.emod_nonneg _ (by omega)
        have hbr1 : b % c < c := Int.emod_lt_of_pos _ (by omega)
        obtain ⟨w1, w2⟩ := whole (h := a / 2) (b := b) (c := c) (odd := 1) hc (by omega) hb (.inr rfl)
        rw [show 2 * (a / 2) + 1 = a from by omega, Int.one_mul, Int.one_mul] at w1
        rw [show 2 * (a / 2) + 1 = a from by omega, Int.one_mul] at w2
        rw [w1, w2]
        generalize a / 2 * b / c = Q at *
        generalize a / 2 * b % c = R at *
        generalize b / c = bq at *
        generalize b % c = br at *
        rw [wr (x := bq) (by omega), wr (x := 2 * two Q) (by omega), wr (x := 2 * two Q + bq) (by omega), wr (x := 2 * R) (by omega), wr (x := 2 * R + br) (by omega)]
        rw [step_j k c _ _ hc hc1 (by omega) (by omega) (by omega) (by omega)]
        have hd0 : 0 ≤ (2 * R + br) / c := Int.ediv_nonneg (by omega) (by omega)
        rcases ht.2.2 with e | ⟨e, e'⟩
        · rw [e]
        · rw [e]
          have : two (2 * 2305843009213693952 + bq + (2 * R + br) / c) = two (2 * Q + bq + (2 * R + br) / c) := by unfold two; rw [if_pos (by omega), if_pos (by omega)]
          rw [this]
      · rw [if_neg ho]
        obtain ⟨w1, w2⟩ := whole (h := a / 2) (b := b) (c := c) (odd := 0) hc (by omega) hb (.inl rfl)
        rw [show 2 * (a / 2) + 0 = a from by omega, Int.zero_mul, Int.zero_mul, Int.add_zero, Int.add_zero] at w1
        rw [show 2 * (a / 2) + 0 = a from by omega, Int.zero_mul, Int.add_zero] at w2
        rw [w1, w2]
        generalize a / 2 * b / c = Q at *
        generalize a / 2 * b % c = R at *
        rw [wr (x := 2 * two Q) (by omega), wr (x := 2 * R) (by omega)]
        rw [step_j k c _ _ hc hc1 (by omega) (by omega) (by omega) (by omega)]
        have hd0 : 0 ≤ (2 * R) / c := Int.ediv_nonneg (by omega) (by omega)
        rcases ht.2.2 with e | ⟨e, e'⟩
        · rw [e]
        · rw [e]
          have : two (2 * 2305843009213693952 + (2 * R) / c) = two (2 * Q + (2 * R) / c) := by unfold two; rw [if_pos (by omega), if_pos (by omega)]
          rw [this]
theorem rPart_f (a b c : Int) (k : Nat) (hk : 70 ≤ k) : flashlockref01_Part.f k a b c = some (partV a b c) := by
  unfold flashlockref01_Part.f partV
  rw [rright_f]; simp only [Option.bind_some]
  by_cases h : okB a b c = true
  · rw [if_pos h, if_pos h]
    have h' : 0 ≤ a ∧ a ≤ 1152921504606846976 ∧ 0 ≤ b ∧ b ≤ 1152921504606846976 ∧ 1 ≤ c ∧ c ≤ 1152921504606846976 := of_decide_eq_true h
    rw [rpart_f b c h'.2.2.1 h'.2.2.2.1 h'.2.2.2.2.1 h'.2.2.2.2.2 61 k a h'.1 (by have : (2 : Int) ^ 61 = 2305843009213693952 := by decide
                                                                                  omega) h'.2.1 (by omega)]
    have hq0 : 0 ≤ a * b / c := Int.ediv_nonneg (Int.mul_nonneg h'.1 h'.2.2.1) (by omega)
    generalize a * b / c = Q at *
    simp only [Option.bind_some, rhold_f]
    congr 1
    unfold two hd; split <;> split <;> (try split) <;> (try split) <;> omega
  · rw [if_neg h, if_neg h]
theorem rUp_f (a b c : Int) (k : Nat) (hk : 70 ≤ k) : flashlockref01_Up.f k a b c = some (upV a b c) := by
  unfold flashlockref01_Up.f upV
  rw [rright_f]; simp only [Option.bind_some]
  by_cases h : okB a b c = true
  · rw [if_pos h, if_pos h]
    have h' : 0 ≤ a ∧ a ≤ 1152921504606846976 ∧ 0 ≤ b ∧ b ≤ 1152921504606846976 ∧ 1 ≤ c ∧ c ≤ 1152921504606846976 := of_decide_eq_true h
    rw [rpart_f b c h'.2.2.1 h'.2.2.2.1 h'.2.2.2.2.1 h'.2.2.2.2.2 61 k a h'.1 (by have : (2 : Int) ^ 61 = 2305843009213693952 := by decide
                                                                                  omega) h'.2.1 (by omega)]
    have hq0 : 0 ≤ a * b / c := Int.ediv_nonneg (Int.mul_nonneg h'.1 h'.2.2.1) (by omega)
    have hr0 : 0 ≤ a * b % c := Int.emod_nonneg _ (by omega)
    generalize a * b / c = Q at *
    generalize a * b % c = R at *
    simp only [Option.bind_some, rhold_f]
    have ht : two Q = if Q > 2305843009213693952 then 2305843009213693952 else Q := rfl
    by_cases hR : R = 0
    · rw [if_neg (by omega), if_pos hR]; congr 1
      rw [ht]; unfold hd; split <;> split <;> (try split) <;> (try split) <;> omega
    · rw [if_pos (by omega), if_neg hR]; congr 1
      rw [wr (by rw [ht]; split <;> omega), ht]; unfold hd; split <;> split <;> (try split) <;> (try split) <;> (try split) <;> omega
  · rw [if_neg h, if_neg h]
theorem SatParts : flashlocklaw01_SatParts.Pure := by
  intro a b c _ _ _
  refine ⟨70, ?_⟩
  unfold flashlocklaw01_SatParts.f
  rw [rPart_f a b c 70 (by decide), rUp_f a b c 70 (by decide)]
  simp only [sat_Part.f, sat_Up.f, Option.bind_some, if_true, parts_lives]
end Go.Proofs.Ytkgcoeagifjbpaa.Pure
