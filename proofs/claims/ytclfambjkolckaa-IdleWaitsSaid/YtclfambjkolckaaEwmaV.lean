/- The averages, in whole numbers: floor and step, the program's and the document's. -/
import Derived.Test.YtclfambjkolckaaPIx3
import Derived.Test.YtclfambjkolckaaPIx5
import Derived.OpenShut
namespace Go.Proofs.Ytclfambjkolckaa.Pure
open Go.RowKit Go.Proofs.Ytclfambjkolckaa.PI Go.Proofs.Ytclfambjkolckaa.SatDiv Go.Proofs.YtclfambjkolckaaW.PrintWords Go.Proofs.YtclfambjkolckaaW.PrintLast Go.Proofs.YtclfambjkolckaaW.PrintMore
set_option linter.unusedVariables false
set_option linter.unusedSimpArgs false

theorem ewr {x : Int} (h : -9223372036854775808 ≤ x ∧ x < 9223372036854775808) : wrap64 x = x := by unfold wrap64; omega
def floorV (x w : Int) : Int := if 0 ≤ w ∧ w ≤ 62 then x / 2 ^ w.toNat else 0
theorem floor_f (x w : Int) : ewma_Floor.f x w = some (floorV x w) := by
  unfold ewma_Floor.f floorV
  by_cases h1 : w < 0
  · rw [if_pos h1, if_neg (by omega)]
  · by_cases h2 : w > 62
    · rw [if_neg h1, if_pos h2, if_neg (by omega)]
    · rw [if_neg h1, if_neg h2, if_pos (by omega), if_pos (by omega)]; unfold shr; rw [Nat.min_eq_left (by simp [IntKind.bits]; omega)]
theorem half (x : Int) (h : -9223372036854775808 ≤ x ∧ x ≤ 9223372036854775807) :
    (if x < 0 then (if (Int.tmod x 2) = 0 then (wrap64 (Int.tdiv x 2)) else (wrap64 (Int.tdiv (wrap64 (x - 1)) 2))) else (wrap64 (Int.tdiv x 2))) = x / 2 := by
  have e1 : Int.tdiv x 2 = if 0 ≤ x then x / 2 else -((-x) / 2) := by
    split
    · exact Int.tdiv_eq_ediv_of_nonneg (by omega)
    · have : Int.tdiv (-(-x)) 2 = -(Int.tdiv (-x) 2) := Int.neg_tdiv _ _
      rw [Int.neg_neg] at this; rw [this, Int.tdiv_eq_ediv_of_nonneg (by omega)]
  have e2 : Int.tmod x 2 = if 0 ≤ x then x % 2 else -((-x) % 2) := by
    split
    · exact Int.tmod_eq_emod_of_nonneg (by omega)
    · have : Int.tmod (-(-x)) 2 = -(Int.tmod (-x) 2) := Int.neg_tmod _ _
      rw [Int.neg_neg] at this; rw [this, Int.tmod_eq_emod_of_nonneg (by omega)]
  have e3 : x < 0 → Int.tdiv (x - 1) 2 = -((1 - x) / 2) := by
    intro hx
    have : Int.tdiv (-(1 - x)) 2 = -(Int.tdiv (1 - x) 2) := Int.neg_tdiv _ _
    rw [show x - 1 = -(1 - x) by omega, this, Int.tdiv_eq_ediv_of_nonneg (by omega)]
  by_cases hx : x < 0
  · rw [if_pos hx, e1, e2]
    simp only [if_neg (show ¬ 0 ≤ x by omega)]
    split
    · rw [ewr (by omega)]; omega
    · rw [ewr (x := x - 1) (by omega), e3 hx, ewr (by omega)]; omega
  · rw [if_neg hx, e1, if_pos (by omega), ewr (by omega)]
theorem rfloor_l (w : Int) (n : Nat) : ∀ (k : Nat) (x i : Int), -9223372036854775808 ≤ x ∧ x ≤ 9223372036854775807 → 0 ≤ i → w ≤ 62 → w - i = n → n < k → flashlockref02_Floor.l0 k x w i = some (x / 2 ^ n) := by
  induction n with
  | zero =>
    intro k x i hx h0 hN hn hk
    obtain ⟨k, rfl⟩ : ∃ m, k = m + 1 := ⟨k - 1, by omega⟩
    simp only [flashlockref02_Floor.l0]; rw [if_neg (by omega)]; simp
  | succ n ih =>
    intro k x i hx h0 hN hn hk
    obtain ⟨k, rfl⟩ : ∃ m, k = m + 1 := ⟨k - 1, by omega⟩
    simp only [flashlockref02_Floor.l0]; rw [if_pos (by omega), ewr (x := i + 1) (by omega)]
    have e : (if x < 0 then (if (Int.tmod x 2) = 0 then (flashlockref02_Floor.l0 k (wrap64 (Int.tdiv x 2)) w (i + 1)) else (flashlockref02_Floor.l0 k (wrap64 (Int.tdiv (wrap64 (x - 1)) 2)) w (i + 1))) else (flashlockref02_Floor.l0 k (wrap64 (Int.tdiv x 2)) w (i + 1))) = flashlockref02_Floor.l0 k (x / 2) w (i + 1) := by
      rw [← half x hx]; split
      · split <;> rfl
      · rfl
    rw [e, ih k (x / 2) (i + 1) (by omega) (by omega) hN (by omega) (by omega)]
    rw [Int.ediv_ediv, if_neg (fun hc => absurd hc.1 (by decide)), Int.sub_zero, show (2 : Int) * 2 ^ n = 2 ^ (n + 1) from by rw [Int.pow_succ]; exact Int.mul_comm _ _]
theorem rfloor_f (x w : Int) (hx : -9223372036854775808 ≤ x ∧ x ≤ 9223372036854775807) (k : Nat) (hk : 70 ≤ k) : flashlockref02_Floor.f k x w = some (floorV x w) := by
  obtain ⟨k, rfl⟩ : ∃ m, k = m + 1 := ⟨k - 1, by omega⟩
  unfold flashlockref02_Floor.f floorV
  by_cases h1 : w < 0
  · rw [if_pos h1, if_neg (by omega)]; simp only [flashlockref02_Floor.j0]; rw [if_pos trivial]
  · rw [if_neg h1]
    by_cases h2 : w > 62
    · rw [decide_eq_true h2, if_neg (by omega)]; simp only [flashlockref02_Floor.j0]; rw [if_pos trivial]
    · rw [decide_eq_false h2, if_pos (by omega)]; simp only [flashlockref02_Floor.j0]; rw [if_neg (by decide)]
      exact rfloor_l w w.toNat k x 0 hx (by omega) (by omega) (by omega) (by omega)
def stepV (y x w : Int) : Int := if 0 ≤ w ∧ w ≤ 16 then addV y (floorV (subV x y) w) else hd y
theorem step_f (y x w : Int) : ewma_Step.f y x w = some (stepV y x w) := by
  unfold ewma_Step.f ewma_weight.f stepV sat_Sub.f sat_Add.f sat_Hold.f
  by_cases h1 : w ≥ 0
  · rw [if_pos h1]; simp only [Option.bind_some, floor_f]
    by_cases h2 : w ≤ 16
    · rw [decide_eq_true h2, if_pos rfl, if_pos ⟨h1, h2⟩]
    · rw [decide_eq_false h2, if_neg (by decide), if_neg (by omega)]
  · rw [if_neg h1]; simp only [Option.bind_some]; rw [if_neg (by decide), if_neg (by omega)]
theorem rstep_f (y x w : Int) (k : Nat) (hk : 80 ≤ k) : flashlockref02_Step.f k y x w = some (stepV y x w) := by
  obtain ⟨k, rfl⟩ : ∃ m, k = m + 1 := ⟨k - 1, by omega⟩
  have hs := hd_range (hd x - hd y)
  have hj : ∀ b : Bool, flashlockref02_Step.j0 (k + 1) y x w b = if b = true then some (hd y) else some (addV y (floorV (subV x y) w)) := by
    intro b
    simp only [flashlockref02_Step.j0, flashlockref01_Hold.f, flashlockref01_Sub.f, flashlockref01_Add.f, Option.bind_some]
    cases b
    · simp only [if_neg (show ¬ (false = true) by decide)]
      rw [rfloor_f (subV x y) w (by unfold subV; omega) k (by omega)]; rfl
    · rfl
  unfold flashlockref02_Step.f stepV
  rw [hj, hj]
  by_cases h1 : w < 0
  · rw [if_pos h1, if_pos rfl, if_neg (by omega)]
  · rw [if_neg h1]
    by_cases h2 : w > 16
    · rw [decide_eq_true h2, if_pos rfl, if_neg (by omega)]
    · rw [decide_eq_false h2, if_neg (by decide), if_pos (by omega)]
end Go.Proofs.Ytclfambjkolckaa.Pure
