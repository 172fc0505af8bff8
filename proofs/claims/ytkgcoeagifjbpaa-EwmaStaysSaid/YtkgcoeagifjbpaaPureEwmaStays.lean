/- An average lies between the previous average and the sample: the pure statement behind flashlocklaw02.EwmaStays, for all integers. -/
import Derived.Test.YtkgcoeagifjbpaaPEwmaStaysx2
namespace Go.Proofs.Ytkgcoeagifjbpaa.Pure
open Go.RowKit Go.Proofs.Ytkgcoeagifjbpaa.PEwmaStays Go.Proofs.YtkgcoeagifjbpaaW.PrintWords Go.Proofs.YtkgcoeagifjbpaaW.PrintLast Go.Proofs.YtkgcoeagifjbpaaW.PrintMore
set_option linter.unusedVariables false

/-- held within the bound -/
def hd (x : Int) : Int := if x < -1152921504606846976 then -1152921504606846976 else if x > 1152921504606846976 then 1152921504606846976 else x
theorem hd_range (x : Int) : -1152921504606846976 ≤ hd x ∧ hd x ≤ 1152921504606846976 := by unfold hd; split <;> (try split) <;> omega
theorem hd_id {x : Int} (h : -1152921504606846976 ≤ x ∧ x ≤ 1152921504606846976) : hd x = x := by unfold hd; rw [if_neg (by omega), if_neg (by omega)]
theorem hold_f (x : Int) : sat_Hold.f x = some (hd x) := by unfold sat_Hold.f hd; split <;> (try split) <;> rfl
theorem wr {x : Int} (h : -9223372036854775808 ≤ x ∧ x < 9223372036854775808) : wrap64 x = x := by unfold wrap64; omega
theorem add_f (x y : Int) : sat_Add.f x y = some (hd (hd x + hd y)) := by
  have := hd_range x; have := hd_range y
  unfold sat_Add.f; simp only [hold_f, Option.bind_some]; rw [wr (by omega)]
theorem sub_f (x y : Int) : sat_Sub.f x y = some (hd (hd x - hd y)) := by
  have := hd_range x; have := hd_range y
  unfold sat_Sub.f; simp only [hold_f, Option.bind_some]; rw [wr (by omega)]
theorem weight_f (w : Int) : ewma_weight.f w = some (decide (0 ≤ w ∧ w ≤ 16)) := by
  unfold ewma_weight.f; split
  · congr 1; by_cases h : w ≤ 16 <;> simp [h] <;> omega
  · congr 1; symm; simp; omega
theorem floor_f {x w : Int} (h : 0 ≤ w ∧ w ≤ 16) : ewma_Floor.f x w = some (x / 2 ^ w.toNat) := by
  unfold ewma_Floor.f; rw [if_neg (by omega), if_neg (by omega), if_pos (by omega)]; unfold shr; rw [Nat.min_eq_left (by simp [IntKind.bits]; omega)]
/-- One step, at a weight. -/
def st (w y x : Int) : Int := hd (hd y + hd (hd x - hd y) / 2 ^ w.toNat)
theorem step_f {w : Int} (h : 0 ≤ w ∧ w ≤ 16) (y x : Int) : ewma_Step.f y x w = some (st w y x) := by
  have h1 := hd_range y; have h2 := hd_range (hd x - hd y)
  unfold ewma_Step.f; rw [weight_f]; simp only [Option.bind_some]; rw [if_pos (by simpa using h), sub_f]; simp only [Option.bind_some]; rw [floor_f h]; simp only [Option.bind_some]; rw [add_f]; simp only [Option.bind_some]
  unfold st
  have hp : (0 : Int) < 2 ^ w.toNat := Int.pow_pos (by decide)
  have : hd (hd (hd x - hd y) / 2 ^ w.toNat) = hd (hd x - hd y) / 2 ^ w.toNat := by
    apply hd_id
    constructor
    · rw [Int.le_ediv_iff_mul_le hp]
      have : (1:Int) ≤ 2 ^ w.toNat := hp
      have : (-1152921504606846976 : Int) * 2 ^ w.toNat ≤ -1152921504606846976 * 1 := Int.mul_le_mul_of_nonpos_left (by decide) this
      omega
    · by_cases h0 : 0 ≤ hd (hd x - hd y)
      · have := Int.ediv_le_self (2 ^ w.toNat : Int) h0; omega
      · have := Int.ediv_neg_of_neg_of_pos (by omega : hd (hd x - hd y) < 0) hp; omega
  rw [this]
theorem step_out {w : Int} (h : ¬ (0 ≤ w ∧ w ≤ 16)) (y x : Int) : ewma_Step.f y x w = some (hd y) := by
  unfold ewma_Step.f; rw [weight_f]; simp only [Option.bind_some]; rw [if_neg (by simpa using h), hold_f]; rfl
theorem st_up {w y x : Int} (hle : hd y ≤ hd x) : hd y ≤ st w y x ∧ st w y x ≤ hd x := by
  have h1 := hd_range y; have h2 := hd_range x
  have hp : (0 : Int) < 2 ^ w.toNat := Int.pow_pos (by decide)
  have hd0 : 0 ≤ hd (hd x - hd y) ∧ hd (hd x - hd y) ≤ hd x - hd y := by unfold hd at *; split <;> (try split) <;> omega
  have a := Int.ediv_le_self (2 ^ w.toNat : Int) hd0.1
  have b := Int.ediv_nonneg hd0.1 (Int.le_of_lt hp)
  unfold st; rw [hd_id (x := hd y + hd (hd x - hd y) / 2 ^ w.toNat) (by omega)]; omega
theorem st_down {w y x : Int} (hle : hd x ≤ hd y) : hd x ≤ st w y x ∧ st w y x ≤ hd y := by
  have h1 := hd_range y; have h2 := hd_range x
  have hp : (0 : Int) < 2 ^ w.toNat := Int.pow_pos (by decide)
  have h1p : (1:Int) ≤ 2 ^ w.toNat := hp
  have hd0 : hd (hd x - hd y) ≤ 0 ∧ hd x - hd y ≤ hd (hd x - hd y) := by unfold hd at *; split <;> (try split) <;> omega
  have a : hd (hd x - hd y) ≤ hd (hd x - hd y) / 2 ^ w.toNat := by
    rw [Int.le_ediv_iff_mul_le hp]
    have := Int.mul_le_mul_of_nonpos_left hd0.1 h1p
    omega
  have b : hd (hd x - hd y) / 2 ^ w.toNat ≤ 0 := by
    by_cases e : hd (hd x - hd y) = 0
    · rw [e]; simp
    · have := Int.ediv_neg_of_neg_of_pos (by omega : hd (hd x - hd y) < 0) hp; omega
  unfold st; rw [hd_id (x := hd y + hd (hd x - hd y) / 2 ^ w.toNat) (by omega)]; omega
theorem hd_st (w y x : Int) : hd (st w y x) = st w y x := hd_id (by unfold st; exact hd_range _)
/-- n steps -/
def sts (w x : Int) : Nat → Int → Int
  | 0, y => y
  | n + 1, y => sts w x n (st w y x)
theorem rest_l {w : Int} (h : 0 ≤ w ∧ w ≤ 16) (x : Int) (n : Nat) : ∀ (k : Nat) (y i N : Int), 0 ≤ i → N ≤ 1000 → N - i = n → n < k → ewma_Rest.l0 k y x w N i = some (sts w x n y) := by
  induction n with
  | zero =>
    intro k y i N h0 hN hn hk
    obtain ⟨k, rfl⟩ : ∃ m, k = m + 1 := ⟨k - 1, by omega⟩
    simp only [ewma_Rest.l0]; rw [if_neg (by omega)]; rfl
  | succ n ih =>
    intro k y i N h0 hN hn hk
    obtain ⟨k, rfl⟩ : ∃ m, k = m + 1 := ⟨k - 1, by omega⟩
    simp only [ewma_Rest.l0]; rw [if_pos (by omega), step_f h]; simp only [Option.bind_some]; rw [wr (by omega)]
    exact ih k _ _ _ (by omega) hN (by omega) (by omega)
theorem rest_f {w : Int} (h : 0 ≤ w ∧ w ≤ 16) (y x : Int) (n : Nat) (hn : n ≤ 1000) (k : Nat) (hk : n < k) : ewma_Rest.f k y x w n = some (sts w x n y) := by
  unfold ewma_Rest.f
  have : mn (mx (n : Int) 0) 1000 = n := by unfold mn mx; rw [if_neg (by omega)]; split <;> omega
  rw [this]; exact rest_l h x n k y 0 n (by omega) (by omega) (by omega) hk
theorem sts_up (w x : Int) (n : Nat) : ∀ y, hd y = y → y ≤ hd x → y ≤ sts w x n y ∧ sts w x n y ≤ hd x := by
  induction n with
  | zero => intro y _ hle; exact ⟨Int.le_refl _, hle⟩
  | succ n ih =>
    intro y e hle
    have a := st_up (w := w) (y := y) (x := x) (by omega)
    have b := ih (st w y x) (hd_st _ _ _) (by omega)
    simp only [sts]; omega
theorem sts_down (w x : Int) (n : Nat) : ∀ y, hd y = y → hd x ≤ y → hd x ≤ sts w x n y ∧ sts w x n y ≤ y := by
  induction n with
  | zero => intro y _ hle; exact ⟨hle, Int.le_refl _⟩
  | succ n ih =>
    intro y e hle
    have a := st_down (w := w) (y := y) (x := x) (by omega)
    have b := ih (st w y x) (hd_st _ _ _) (by omega)
    simp only [sts]; omega
theorem sts_add (w x : Int) (m n : Nat) : ∀ y, sts w x (m + n) y = sts w x n (sts w x m y) := by
  induction m with
  | zero => intro y; simp [sts]
  | succ m ih => intro y; rw [show m + 1 + n = (m + n) + 1 from by omega]; simp only [sts]; exact ih _
theorem lives_f : flashlocklaw02_lives.f = some true := by decide +kernel
theorem clamp_eq (a : Int) : mx (-1152921504606846976) (mn a 1152921504606846976) = hd a := by
  unfold mx mn hd; split <;> split <;> (try split) <;> omega
theorem hd_sts (w x : Int) (n : Nat) : ∀ y, hd (sts w x (n + 1) y) = sts w x (n + 1) y := by
  induction n with
  | zero => intro y; exact hd_st _ _ _
  | succ n ih => intro y; exact ih (st w y x)

theorem EwmaStays : flashlocklaw02_EwmaStays.Pure := by
  intro avg x w _ _ _
  refine ⟨100, ?_⟩
  unfold flashlocklaw02_EwmaStays.f
  simp only [clamp_eq]
  by_cases hw : 0 ≤ w ∧ w ≤ 16
  · rw [step_f hw]; simp only [Option.bind_some]
    have hs : st w avg x ≥ mn (hd avg) (hd x) ∧ st w avg x ≤ mx (hd avg) (hd x) := by
      unfold mn mx
      by_cases hle : hd avg ≤ hd x
      · have := st_up (w := w) hle; split <;> split <;> omega
      · have := st_down (w := w) (y := avg) (x := x) (by omega); split <;> split <;> omega
    rw [if_neg (by omega)]
    rw [show decide (st w avg x > mx (hd avg) (hd x)) = false from by simp; omega]
    simp only [flashlocklaw02_EwmaStays.j0]
    rw [if_neg (by decide), if_neg (by omega)]
    rw [show decide (w > 16) = false from by simp; omega]
    simp only [flashlocklaw02_EwmaStays.j1]
    rw [if_neg (by decide)]
    rw [show (3 : Int) = ((3 : Nat) : Int) from rfl, show (9 : Int) = ((9 : Nat) : Int) from rfl, rest_f hw avg x 3 (by decide) _ (by decide), rest_f hw avg x 9 (by decide) _ (by decide)]
    simp only [Option.bind_some, lives_f]
    have e3 : sts w x 3 avg = sts w x 2 (st w avg x) := rfl
    have e9 : sts w x 9 avg = sts w x 6 (sts w x 3 avg) := sts_add w x 3 6 avg
    have hs1 := hd_st w avg x
    have hs3 := hd_sts w x 2 avg
    by_cases hle : hd avg ≤ hd x
    · have a := st_up (w := w) hle
      have b := sts_up w x 2 (st w avg x) hs1 (by omega)
      have c := sts_up w x 6 (sts w x 3 avg) hs3 (by omega)
      rw [if_pos hle, if_pos (by omega), if_pos (by omega), if_pos (by omega)]
    · have a := st_down (w := w) (y := avg) (x := x) (by omega)
      have b := sts_down w x 2 (st w avg x) hs1 (by omega)
      have c := sts_down w x 6 (sts w x 3 avg) hs3 (by omega)
      rw [if_neg hle, if_pos (by omega), if_pos (by omega), if_pos (by omega), if_pos (by omega)]
  · rw [step_out hw]; simp only [Option.bind_some]
    have hs : hd avg ≥ mn (hd avg) (hd x) ∧ hd avg ≤ mx (hd avg) (hd x) := by
      unfold mn mx; split <;> split <;> omega
    rw [if_neg (by omega)]
    rw [show decide (hd avg > mx (hd avg) (hd x)) = false from by simp; omega]
    simp only [flashlocklaw02_EwmaStays.j0]
    rw [if_neg (by decide)]
    have : (if w < 0 then flashlocklaw02_EwmaStays.j1 99 avg x w (hd avg) (hd x) (hd avg) true else flashlocklaw02_EwmaStays.j1 99 avg x w (hd avg) (hd x) (hd avg) (decide (w > 16))) = flashlocklaw02_EwmaStays.j1 99 avg x w (hd avg) (hd x) (hd avg) true := by
      split
      · rfl
      · rw [show decide (w > 16) = true from by simp; omega]
    rw [this]
    simp only [flashlocklaw02_EwmaStays.j1]
    rw [if_pos trivial, if_pos trivial, lives_f]; rfl

end Go.Proofs.Ytkgcoeagifjbpaa.Pure
