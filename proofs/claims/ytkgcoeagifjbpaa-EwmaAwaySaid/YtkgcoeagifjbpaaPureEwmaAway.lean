/- Away returns the smallest sample that brings the average to 0 or above, as the document's binary search does: the pure statement behind flashlocklaw02.EwmaAway, for all integers. -/
import Derived.Test.YtkgcoeagifjbpaaPEwmaAwayx2
namespace Go.Proofs.Ytkgcoeagifjbpaa.Pure
open Go.RowKit Go.Proofs.Ytkgcoeagifjbpaa.PEwmaAway Go.Proofs.YtkgcoeagifjbpaaW.PrintWords Go.Proofs.YtkgcoeagifjbpaaW.PrintLast Go.Proofs.YtkgcoeagifjbpaaW.PrintMore
set_option linter.unusedVariables false

/-- held within the bound -/
def hd (x : Int) : Int := if x < -1152921504606846976 then -1152921504606846976 else if x > 1152921504606846976 then 1152921504606846976 else x
theorem hd_range (x : Int) : -1152921504606846976 ≤ hd x ∧ hd x ≤ 1152921504606846976 := by unfold hd; split <;> (try split) <;> omega
theorem hd_id {x : Int} (h : -1152921504606846976 ≤ x ∧ x ≤ 1152921504606846976) : hd x = x := by unfold hd; rw [if_neg (by omega), if_neg (by omega)]
theorem hold_f (x : Int) : sat_Hold.f x = some (hd x) := by unfold sat_Hold.f hd; split <;> (try split) <;> rfl
theorem wr {x : Int} (h : -9223372036854775808 ≤ x ∧ x < 9223372036854775808) : wrap64 x = x := by unfold wrap64; omega
theorem add_f (x y : Int) : sat_Add.f x y = some (hd (hd x + hd y)) := by
  have := hd_range x; have := hd_range y
  unfold sat_Add.f; simp only [hold_f, Option.bind_some]; rw [wr (by omega)]
theorem sub_f (x y : Int) : sat_Sub.f x y = some (hd (hd x - hd y)) := by
  have := hd_range x; have := hd_range y
  unfold sat_Sub.f; simp only [hold_f, Option.bind_some]; rw [wr (by omega)]
theorem rhold_f (x : Int) : flashlockref01_Hold.f x = some (hd x) := by
  unfold flashlockref01_Hold.f flashlockref01_most.f hd; simp only [Option.bind_some]
  rw [wr (by omega)]
  by_cases h1 : x > 1152921504606846976
  · rw [if_pos h1, if_neg (by omega), if_pos h1]
  · rw [if_neg h1]; by_cases h2 : x < -1152921504606846976
    · rw [if_pos h2, if_pos h2]
    · rw [if_neg h2, if_neg h2, if_neg h1]
theorem radd_f (x y : Int) : flashlockref01_Add.f x y = some (hd (hd x + hd y)) := by
  have := hd_range x; have := hd_range y
  unfold flashlockref01_Add.f; simp only [rhold_f, Option.bind_some]; rw [wr (by omega)]
theorem rsub_f (x y : Int) : flashlockref01_Sub.f x y = some (hd (hd x - hd y)) := by
  have := hd_range x; have := hd_range y
  unfold flashlockref01_Sub.f; simp only [rhold_f, Option.bind_some]; rw [wr (by omega)]
theorem weight_f (w : Int) : ewma_weight.f w = some (decide (0 ≤ w ∧ w ≤ 16)) := by
  unfold ewma_weight.f; split
  · congr 1; by_cases h : w ≤ 16 <;> simp [h] <;> omega
  · congr 1; symm; simp; omega
theorem floor_f {x w : Int} (h : 0 ≤ w ∧ w ≤ 16) : ewma_Floor.f x w = some (x / 2 ^ w.toNat) := by
  unfold ewma_Floor.f; rw [if_neg (by omega), if_neg (by omega), if_pos (by omega)]; unfold shr; rw [Nat.min_eq_left (by simp [IntKind.bits]; omega)]
theorem div_hd (d w : Int) : hd (hd d / 2 ^ w.toNat) = hd d / 2 ^ w.toNat := by
  have h2 := hd_range d
  have hp : (0 : Int) < 2 ^ w.toNat := Int.pow_pos (by decide)
  apply hd_id
  constructor
  · rw [Int.le_ediv_iff_mul_le hp]
    have : (1:Int) ≤ 2 ^ w.toNat := hp
    have : (-1152921504606846976 : Int) * 2 ^ w.toNat ≤ -1152921504606846976 * 1 := Int.mul_le_mul_of_nonpos_left (by decide) this
    omega
  · by_cases h0 : 0 ≤ hd d
    · have := Int.ediv_le_self (2 ^ w.toNat : Int) h0; omega
    · have := Int.ediv_neg_of_neg_of_pos (by omega : hd d < 0) hp; omega
/-- One step, at a weight. -/
def st (w y x : Int) : Int := hd (hd y + hd (hd x - hd y) / 2 ^ w.toNat)
theorem step_f {w : Int} (h : 0 ≤ w ∧ w ≤ 16) (y x : Int) : ewma_Step.f y x w = some (st w y x) := by
  unfold ewma_Step.f; rw [weight_f]; simp only [Option.bind_some]; rw [if_pos (by simpa using h), sub_f]; simp only [Option.bind_some]; rw [floor_f h]; simp only [Option.bind_some]; rw [add_f]; simp only [Option.bind_some]
  unfold st; rw [div_hd]
theorem half (x : Int) (h : -1152921504606846976 ≤ x ∧ x ≤ 1152921504606846976) :
    (if x < 0 then (if (Int.tmod x 2) = 0 then (wrap64 (Int.tdiv x 2)) else (wrap64 (Int.tdiv (wrap64 (x - 1)) 2))) else (wrap64 (Int.tdiv x 2))) = x / 2 := by
  have e1 : Int.tdiv x 2 = if 0 ≤ x then x / 2 else -((-x) / 2) := by
    split
    · exact Int.tdiv_eq_ediv_of_nonneg (by omega)
    · have : Int.tdiv (-(-x)) 2 = -(Int.tdiv (-x) 2) := Int.neg_tdiv _ _
      rw [Int.neg_neg] at this; rw [this, Int.tdiv_eq_ediv_of_nonneg (by omega)]
  have e2 : Int.tmod x 2 = if 0 ≤ x then x % 2 else -((-x) % 2) := by
    split
    · exact Int.tmod_eq_emod_of_nonneg (by omega)
    · have : Int.tmod (-(-x)) 2 = -(Int.tmod (-x) 2) := Int.neg_tmod _ _
      rw [Int.neg_neg] at this; rw [this, Int.tmod_eq_emod_of_nonneg (by omega)]
  have e3 : x < 0 → Int.tdiv (x - 1) 2 = -((1 - x) / 2) := by
    intro hx
    have : Int.tdiv (-(1 - x)) 2 = -(Int.tdiv (1 - x) 2) := Int.neg_tdiv _ _
    rw [show x - 1 = -(1 - x) by omega, this, Int.tdiv_eq_ediv_of_nonneg (by omega)]
  by_cases hx : x < 0
  · rw [if_pos hx, wr (x := x - 1) (by omega), e3 hx, e1, e2]
    simp only [if_neg (show ¬ 0 ≤ x by omega)]
    split
    · rw [wr (by omega)]; omega
    · rw [wr (by omega)]; omega
  · rw [if_neg hx, e1, if_pos (by omega), wr (by omega)]
theorem rfloor_l (w : Int) (n : Nat) : ∀ (k : Nat) (x i : Int), -1152921504606846976 ≤ x ∧ x ≤ 1152921504606846976 → 0 ≤ i → w ≤ 62 → w - i = n → n < k → flashlockref02_Floor.l0 k x w i = some (x / 2 ^ n) := by
  induction n with
  | zero =>
    intro k x i hx h0 hN hn hk
    obtain ⟨k, rfl⟩ : ∃ m, k = m + 1 := ⟨k - 1, by omega⟩
    simp only [flashlockref02_Floor.l0]; rw [if_neg (by omega)]; simp
  | succ n ih =>
    intro k x i hx h0 hN hn hk
    obtain ⟨k, rfl⟩ : ∃ m, k = m + 1 := ⟨k - 1, by omega⟩
    simp only [flashlockref02_Floor.l0]; rw [if_pos (by omega), wr (x := i + 1) (by omega)]
    have e : (if x < 0 then (if (Int.tmod x 2) = 0 then (flashlockref02_Floor.l0 k (wrap64 (Int.tdiv x 2)) w (i + 1)) else (flashlockref02_Floor.l0 k (wrap64 (Int.tdiv (wrap64 (x - 1)) 2)) w (i + 1))) else (flashlockref02_Floor.l0 k (wrap64 (Int.tdiv x 2)) w (i + 1))) = flashlockref02_Floor.l0 k (x / 2) w (i + 1) := by
      rw [← half x hx]; split
      · split <;> rfl
      · rfl
    rw [e, ih k (x / 2) (i + 1) (by omega) (by omega) hN (by omega) (by omega)]
    rw [Int.ediv_ediv, if_neg (fun hc => absurd hc.1 (by decide)), Int.sub_zero, show (2 : Int) * 2 ^ n = 2 ^ (n + 1) from by rw [Int.pow_succ]; exact Int.mul_comm _ _]
theorem rfloor_f {w : Int} (h : 0 ≤ w ∧ w ≤ 16) (x : Int) (hx : -1152921504606846976 ≤ x ∧ x ≤ 1152921504606846976) (k : Nat) (hk : 20 ≤ k) : flashlockref02_Floor.f k x w = some (x / 2 ^ w.toNat) := by
  unfold flashlockref02_Floor.f; rw [if_neg (by omega), show decide (w > 62) = false from by simp; omega]
  obtain ⟨k, rfl⟩ : ∃ m, k = m + 1 := ⟨k - 1, by omega⟩
  simp only [flashlockref02_Floor.j0]; rw [if_neg (by decide)]
  exact rfloor_l w w.toNat k x 0 hx (by omega) (by omega) (by omega) (by omega)
theorem rstep_f {w : Int} (h : 0 ≤ w ∧ w ≤ 16) (y x : Int) (k : Nat) (hk : 30 ≤ k) : flashlockref02_Step.f k y x w = some (st w y x) := by
  unfold flashlockref02_Step.f; rw [if_neg (by omega), show decide (w > 16) = false from by simp; omega]
  obtain ⟨k, rfl⟩ : ∃ m, k = m + 1 := ⟨k - 1, by omega⟩
  simp only [flashlockref02_Step.j0]; rw [if_neg (by decide), rsub_f]; simp only [Option.bind_some]
  rw [rfloor_f h _ (hd_range _) k (by omega)]; simp only [Option.bind_some]; rw [radd_f]; simp only [Option.bind_some]
  unfold st; rw [div_hd]
/-- The least number that brings the average to 0. -/
def aw (avg w : Int) : Int := -avg * (2 ^ w.toNat - 1)
theorem pw {w : Int} (h : 0 ≤ w ∧ w ≤ 16) : (1 : Int) ≤ 2 ^ w.toNat ∧ (2 : Int) ^ w.toNat ≤ 65536 := by
  have : ∀ n : Nat, n ≤ 16 → (1 : Int) ≤ 2 ^ n ∧ (2 : Int) ^ n ≤ 65536 := by decide
  exact this _ (by omega)
theorem aw_range {avg w : Int} (h : 0 ≤ w ∧ w ≤ 16) (h1 : avg < 0) (h2 : -1099511627776 ≤ avg) : 0 ≤ aw avg w ∧ aw avg w ≤ 72056494526300160 := by
  have := pw h
  unfold aw
  exact ⟨Int.mul_nonneg (by omega) (by omega), by
    have : -avg * (2 ^ w.toNat - 1) ≤ 1099511627776 * 65535 := Int.mul_le_mul (by omega) (by omega) (by omega) (by decide)
    omega⟩
theorem st_iff {avg w x : Int} (h : 0 ≤ w ∧ w ≤ 16) (h1 : avg < 0) (h2 : -1099511627776 ≤ avg) (hx : -1 ≤ x ∧ x ≤ 144115188075855872) : 0 ≤ st w avg x ↔ aw avg w ≤ x := by
  have hp := pw h
  have hb : (0 : Int) < 2 ^ w.toNat := by omega
  unfold st; rw [hd_id (x := avg) (by omega), hd_id (x := x) (by omega), hd_id (x := x - avg) (by omega)]
  have : 0 ≤ hd (avg + (x - avg) / 2 ^ w.toNat) ↔ 0 ≤ avg + (x - avg) / 2 ^ w.toNat := by unfold hd; split <;> (try split) <;> omega
  rw [this]
  have : 0 ≤ avg + (x - avg) / 2 ^ w.toNat ↔ -avg ≤ (x - avg) / 2 ^ w.toNat := by omega
  rw [this, Int.le_ediv_iff_mul_le hb]
  unfold aw; rw [Int.mul_sub]; omega
theorem raway_l {avg w : Int} (h : 0 ≤ w ∧ w ≤ 16) (h1 : avg < 0) (h2 : -1099511627776 ≤ avg) (d : Nat) : ∀ (k : Nat) (lo hi : Int), -1 ≤ lo → hi ≤ 144115188075855872 → lo < aw avg w → aw avg w ≤ hi → hi - lo ≤ 2 ^ d + 1 → d + 40 ≤ k →
    flashlockref02_Away.l0 k avg w lo hi = some (aw avg w) := by
  have ha := aw_range h h1 h2
  induction d with
  | zero =>
    intro k lo hi hlo hhi hl hh hs hk
    obtain ⟨k, rfl⟩ : ∃ m, k = m + 1 := ⟨k - 1, by omega⟩
    simp only [flashlockref02_Away.l0]; rw [wr (x := hi - lo) (by omega)]
    by_cases hg : hi - lo > 1
    · rw [if_pos hg, wr (x := lo + hi) (by omega), Int.tdiv_eq_ediv_of_nonneg (by omega), wr (by omega), rstep_f h _ _ k (by omega)]; simp only [Option.bind_some]
      obtain ⟨k, rfl⟩ : ∃ m, k = m + 1 := ⟨k - 1, by omega⟩
      have hi' := st_iff h h1 h2 (x := (lo + hi) / 2) (by omega)
      by_cases hge : 0 ≤ st w avg ((lo + hi) / 2)
      · rw [if_pos hge]; simp only [flashlockref02_Away.l0]; rw [wr (by omega), if_neg (by omega)]
        have := hi'.1 hge; congr 1; omega
      · rw [if_neg hge]; simp only [flashlockref02_Away.l0]; rw [wr (by omega), if_neg (by omega)]
        have : ¬ aw avg w ≤ (lo + hi) / 2 := fun hc => hge (hi'.2 hc)
        congr 1; omega
    · rw [if_neg hg]; congr 1; omega
  | succ d ih =>
    intro k lo hi hlo hhi hl hh hs hk
    obtain ⟨k, rfl⟩ : ∃ m, k = m + 1 := ⟨k - 1, by omega⟩
    simp only [flashlockref02_Away.l0]; rw [wr (x := hi - lo) (by omega)]
    by_cases hg : hi - lo > 1
    · rw [if_pos hg, wr (x := lo + hi) (by omega), Int.tdiv_eq_ediv_of_nonneg (by omega), wr (by omega), rstep_f h _ _ k (by omega)]; simp only [Option.bind_some]
      have hi' := st_iff h h1 h2 (x := (lo + hi) / 2) (by omega)
      rw [Int.pow_succ] at hs
      by_cases hge : 0 ≤ st w avg ((lo + hi) / 2)
      · rw [if_pos hge]
        exact ih k lo _ hlo (by omega) hl (hi'.1 hge) (by omega) (by omega)
      · rw [if_neg hge]
        have : ¬ aw avg w ≤ (lo + hi) / 2 := fun hc => hge (hi'.2 hc)
        exact ih k _ hi (by omega) hhi (by omega) hh (by omega) (by omega)
    · rw [if_neg hg]; congr 1; omega
theorem lives_f : flashlocklaw02_lives.f = some true := by decide +kernel
theorem away_in {avg w : Int} (h : 0 ≤ w ∧ w ≤ 16) (h1 : avg < 0) (h2 : -1099511627776 ≤ avg) : ewma_Away.f avg w = some (aw avg w) := by
  have hp := pw h; have ha := aw_range h h1 h2
  unfold ewma_Away.f; rw [weight_f]; simp only [Option.bind_some]; rw [if_pos (by simpa using h), if_neg (by omega), if_neg (by omega), if_pos h.1]
  unfold shl; rw [Nat.min_eq_left (by simp [IntKind.bits]; omega), i64_w, Int.one_mul, wr (x := 2 ^ w.toNat) (by omega), wr (x := -avg) (by omega), wr (x := 2 ^ w.toNat - 1) (by omega), wr (by unfold aw at ha; omega)]
  rfl
theorem away_out {avg w : Int} (h : ¬ (0 ≤ w ∧ w ≤ 16) ∨ 0 ≤ avg ∨ avg < -1099511627776) : ewma_Away.f avg w = some 0 := by
  unfold ewma_Away.f; rw [weight_f]; simp only [Option.bind_some]
  by_cases hw : 0 ≤ w ∧ w ≤ 16
  · rw [if_pos (by simpa using hw)]; split
    · rfl
    · rw [if_pos (by omega)]
  · rw [if_neg (by simpa using hw)]
theorem raway_f {avg w : Int} (k : Nat) (hk : 200 ≤ k) : flashlockref02_Away.f k avg w = ewma_Away.f avg w := by
  obtain ⟨k, rfl⟩ : ∃ m, k = m + 1 := ⟨k - 1, by omega⟩
  unfold flashlockref02_Away.f
  by_cases h : (0 ≤ w ∧ w ≤ 16) ∧ avg < 0 ∧ -1099511627776 ≤ avg
  · obtain ⟨h, h1, h2⟩ := h
    have ha := aw_range h h1 h2
    rw [away_in h h1 h2, if_neg (by omega), if_neg (by omega), if_neg (by omega), show decide (avg < -1099511627776) = false from by simp; omega]
    simp only [flashlockref02_Away.j0]; rw [if_neg (by decide)]
    exact raway_l h h1 h2 57 k (-1) _ (by omega) (by omega) (by omega) (by omega) (by decide) (by omega)
  · rw [away_out (by omega)]
    have e : flashlockref02_Away.j0 (k + 1) avg w true = some 0 := by simp only [flashlockref02_Away.j0]; rw [if_pos trivial]
    split
    · exact e
    · split
      · exact e
      · split
        · exact e
        · rw [show decide (avg < -1099511627776) = true from by simp; omega]; exact e

theorem EwmaAway : flashlocklaw02_EwmaAway.Pure := by
  intro avg w _ _
  refine ⟨300, ?_⟩
  unfold flashlocklaw02_EwmaAway.f
  rw [raway_f 300 (by decide)]
  by_cases h : (0 ≤ w ∧ w ≤ 16) ∧ avg < 0 ∧ -1099511627776 ≤ avg
  · obtain ⟨h, h1, h2⟩ := h
    have ha := aw_range h h1 h2
    rw [away_in h h1 h2]; simp only [Option.bind_some]; rw [if_pos trivial, show decide (aw avg w < 0) = false from by simp; omega]
    simp only [flashlocklaw02_EwmaAway.j0]
    rw [if_neg (by decide), if_neg (by omega), if_neg (by omega), if_neg (by omega), show decide (avg < -1099511627776) = false from by simp; omega]
    simp only [flashlocklaw02_EwmaAway.j1]
    rw [if_neg (by decide), step_f h]; simp only [Option.bind_some]
    rw [if_pos ((st_iff h h1 h2 (by omega)).2 (Int.le_refl _))]
    by_cases h0 : aw avg w = 0
    · rw [if_pos h0, lives_f]; rfl
    · rw [if_neg h0, wr (by omega), step_f h]; simp only [Option.bind_some]
      rw [if_pos (by have := st_iff h h1 h2 (x := aw avg w - 1) (by omega); omega), lives_f]; rfl
  · rw [away_out (by omega)]; simp only [Option.bind_some]; rw [if_pos trivial, show decide ((0 : Int) < 0) = false from by decide]
    simp only [flashlocklaw02_EwmaAway.j0]
    have e : flashlocklaw02_EwmaAway.j1 299 avg w 0 true = some true := by
      simp only [flashlocklaw02_EwmaAway.j1]; rw [if_pos trivial, if_pos trivial, lives_f]; rfl
    rw [if_neg (by decide)]
    split
    · exact e
    · split
      · exact e
      · split
        · exact e
        · rw [show decide (avg < -1099511627776) = true from by simp; omega]; exact e

end Go.Proofs.Ytkgcoeagifjbpaa.Pure
