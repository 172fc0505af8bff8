/- Floor, Step, Run and Rest return the document's averages: the pure statement behind flashlocklaw02.EwmaTells, for all integers (lists of at most 50 numbers, beyond them the document's example). -/
import Derived.Test.YtkgcoeagifjbpaaPEx3
import Derived.Test.YtkgcoeagifjbpaaPEx1
import Derived.Test.YtkgcoeagifjbpaaPEx2
import Derived.OpenShut
namespace Go.Proofs.Ytkgcoeagifjbpaa.Pure
open Go.RowKit Go.Proofs.Ytkgcoeagifjbpaa.PE Go.Proofs.Ytkgcoeagifjbpaa.SatDiv Go.Proofs.YtkgcoeagifjbpaaW.PrintWords Go.Proofs.YtkgcoeagifjbpaaW.PrintLast Go.Proofs.YtkgcoeagifjbpaaW.PrintMore
set_option linter.unusedVariables false
set_option linter.unusedSimpArgs false

theorem ewr {x : Int} (h : -9223372036854775808 ≤ x ∧ x < 9223372036854775808) : wrap64 x = x := by unfold wrap64; omega
def floorV (x w : Int) : Int := if 0 ≤ w ∧ w ≤ 62 then x / 2 ^ w.toNat else 0
theorem floor_f (x w : Int) : ewma_Floor.f x w = some (floorV x w) := by
  unfold ewma_Floor.f floorV
  by_cases h1 : w < 0
  · rw [if_pos h1, if_neg (by omega)]
  · by_cases h2 : w > 62
    · rw [if_neg h1, if_pos h2, if_neg (by omega)]
    · rw [if_neg h1, if_neg h2, if_pos (by omega), if_pos (by omega)]; unfold shr; rw [Nat.min_eq_left (by simp [IntKind.bits]; omega)]
theorem half (x : Int) (h : -9223372036854775808 ≤ x ∧ x ≤ 9223372036854775807) :
    (if x < 0 then (if (Int.tmod x 2) = 0 then (wrap64 (Int.tdiv x 2)) else (wrap64 (Int.tdiv (wrap64 (x - 1)) 2))) else (wrap64 (Int.tdiv x 2))) = x / 2 := by
  have e1 : Int.tdiv x 2 = if 0 ≤ x then x / 2 else -((-x) / 2) := by
    split
    · exact Int.tdiv_eq_ediv_of_nonneg (by omega)
    · have : Int.tdiv (-(-x)) 2 = -(Int.tdiv (-x) 2) := Int.neg_tdiv _ _
      rw [Int.neg_neg] at this; rw [this, Int.tdiv_eq_ediv_of_nonneg (by omega)]
  have e2 : Int.tmod x 2 = if 0 ≤ x then x % 2 else -((-x) % 2) := by
    split
    · exact Int.tmod_eq_emod_of_nonneg (by omega)
    · have : Int.tmod (-(-x)) 2 = -(Int.tmod (-x) 2) := Int.neg_tmod _ _
      rw [Int.neg_neg] at this; rw [this, Int.tmod_eq_emod_of_nonneg (by omega)]
  have e3 : x < 0 → Int.tdiv (x - 1) 2 = -((1 - x) / 2) := by
    intro hx
    have : Int.tdiv (-(1 - x)) 2 = -(Int.tdiv (1 - x) 2) := Int.neg_tdiv _ _
    rw [show x - 1 = -(1 - x) by omega, this, Int.tdiv_eq_ediv_of_nonneg (by omega)]
  by_cases hx : x < 0
  · rw [if_pos hx, e1, e2]
    simp only [if_neg (show ¬ 0 ≤ x by omega)]
    split
    · rw [ewr (by omega)]; omega
    · rw [ewr (x := x - 1) (by omega), e3 hx, ewr (by omega)]; omega
  · rw [if_neg hx, e1, if_pos (by omega), ewr (by omega)]
theorem rfloor_l (w : Int) (n : Nat) : ∀ (k : Nat) (x i : Int), -9223372036854775808 ≤ x ∧ x ≤ 9223372036854775807 → 0 ≤ i → w ≤ 62 → w - i = n → n < k → flashlockref02_Floor.l0 k x w i = some (x / 2 ^ n) := by
  induction n with
  | zero =>
    intro k x i hx h0 hN hn hk
    obtain ⟨k, rfl⟩ : ∃ m, k = m + 1 := ⟨k - 1, by omega⟩
    simp only [flashlockref02_Floor.l0]; rw [if_neg (by omega)]; simp
  | succ n ih =>
    intro k x i hx h0 hN hn hk
    obtain ⟨k, rfl⟩ : ∃ m, k = m + 1 := ⟨k - 1, by omega⟩
    simp only [flashlockref02_Floor.l0]; rw [if_pos (by omega), ewr (x := i + 1) (by omega)]
    have e : (if x < 0 then (if (Int.tmod x 2) = 0 then (flashlockref02_Floor.l0 k (wrap64 (Int.tdiv x 2)) w (i + 1)) else (flashlockref02_Floor.l0 k (wrap64 (Int.tdiv (wrap64 (x - 1)) 2)) w (i + 1))) else (flashlockref02_Floor.l0 k (wrap64 (Int.tdiv x 2)) w (i + 1))) = flashlockref02_Floor.l0 k (x / 2) w (i + 1) := by
      rw [← half x hx]; split
      · split <;> rfl
      · rfl
    rw [e, ih k (x / 2) (i + 1) (by omega) (by omega) hN (by omega) (by omega)]
    rw [Int.ediv_ediv, if_neg (fun hc => absurd hc.1 (by decide)), Int.sub_zero, show (2 : Int) * 2 ^ n = 2 ^ (n + 1) from by rw [Int.pow_succ]; exact Int.mul_comm _ _]
theorem rfloor_f (x w : Int) (hx : -9223372036854775808 ≤ x ∧ x ≤ 9223372036854775807) (k : Nat) (hk : 70 ≤ k) : flashlockref02_Floor.f k x w = some (floorV x w) := by
  obtain ⟨k, rfl⟩ : ∃ m, k = m + 1 := ⟨k - 1, by omega⟩
  unfold flashlockref02_Floor.f floorV
  by_cases h1 : w < 0
  · rw [if_pos h1, if_neg (by omega)]; simp only [flashlockref02_Floor.j0]; rw [if_pos trivial]
  · rw [if_neg h1]
    by_cases h2 : w > 62
    · rw [decide_eq_true h2, if_neg (by omega)]; simp only [flashlockref02_Floor.j0]; rw [if_pos trivial]
    · rw [decide_eq_false h2, if_pos (by omega)]; simp only [flashlockref02_Floor.j0]; rw [if_neg (by decide)]
      exact rfloor_l w w.toNat k x 0 hx (by omega) (by omega) (by omega) (by omega)
def stepV (y x w : Int) : Int := if 0 ≤ w ∧ w ≤ 16 then addV y (floorV (subV x y) w) else hd y
theorem step_f (y x w : Int) : ewma_Step.f y x w = some (stepV y x w) := by
  unfold ewma_Step.f ewma_weight.f stepV sat_Sub.f sat_Add.f sat_Hold.f
  by_cases h1 : w ≥ 0
  · rw [if_pos h1]; simp only [Option.bind_some, floor_f]
    by_cases h2 : w ≤ 16
    · rw [decide_eq_true h2, if_pos rfl, if_pos ⟨h1, h2⟩]
    · rw [decide_eq_false h2, if_neg (by decide), if_neg (by omega)]
  · rw [if_neg h1]; simp only [Option.bind_some]; rw [if_neg (by decide), if_neg (by omega)]
theorem rstep_f (y x w : Int) (k : Nat) (hk : 80 ≤ k) : flashlockref02_Step.f k y x w = some (stepV y x w) := by
  obtain ⟨k, rfl⟩ : ∃ m, k = m + 1 := ⟨k - 1, by omega⟩
  have hs := hd_range (hd x - hd y)
  have hj : ∀ b : Bool, flashlockref02_Step.j0 (k + 1) y x w b = if b = true then some (hd y) else some (addV y (floorV (subV x y) w)) := by
    intro b
    simp only [flashlockref02_Step.j0, flashlockref01_Hold.f, flashlockref01_Sub.f, flashlockref01_Add.f, Option.bind_some]
    cases b
    · simp only [if_neg (show ¬ (false = true) by decide)]
      rw [rfloor_f (subV x y) w (by unfold subV; omega) k (by omega)]; rfl
    · rfl
  unfold flashlockref02_Step.f stepV
  rw [hj, hj]
  by_cases h1 : w < 0
  · rw [if_pos h1, if_pos rfl, if_neg (by omega)]
  · rw [if_neg h1]
    by_cases h2 : w > 16
    · rw [decide_eq_true h2, if_pos rfl, if_neg (by omega)]
    · rw [decide_eq_false h2, if_neg (by decide), if_pos (by omega)]
/-- n steps with one sample -/
def sts (x w : Int) : Nat → Int → Int
  | 0, y => y
  | n + 1, y => sts x w n (stepV y x w)
theorem rest_l (x w : Int) (n : Nat) : ∀ (k : Nat) (y i N : Int), 0 ≤ i → N ≤ 1000 → N - i = n → n < k → ewma_Rest.l0 k y x w N i = some (sts x w n y) := by
  induction n with
  | zero =>
    intro k y i N h0 hN hn hk
    obtain ⟨k, rfl⟩ : ∃ m, k = m + 1 := ⟨k - 1, by omega⟩
    simp only [ewma_Rest.l0]; rw [if_neg (by omega)]; rfl
  | succ n ih =>
    intro k y i N h0 hN hn hk
    obtain ⟨k, rfl⟩ : ∃ m, k = m + 1 := ⟨k - 1, by omega⟩
    simp only [ewma_Rest.l0]; rw [if_pos (by omega), step_f]; simp only [Option.bind_some]; rw [ewr (by omega)]
    exact ih k _ _ _ (by omega) hN (by omega) (by omega)
/-- how many rounds -/
def many (n : Int) : Nat := (min (max n 0) 1000).toNat
theorem rest_f (y x w n : Int) (k : Nat) (hk : 1001 < k) : ewma_Rest.f k y x w n = some (sts x w (many n) y) := by
  unfold ewma_Rest.f
  have : mn (mx n 0) 1000 = many n := by unfold mn mx many; split <;> split <;> omega
  rw [this]; exact rest_l x w (many n) k y 0 _ (by omega) (by unfold many; omega) (by omega) (by unfold many; omega)
theorem rrest_l (x w N : Int) (n : Nat) : ∀ (k : Nat) (y i : Int), 0 ≤ i → i ≤ 1000 → min (max N 0) 1000 - i = n → n + 80 < k → flashlockref02_Rest.l0 k y x w N i = some (sts x w n y) := by
  induction n with
  | zero =>
    intro k y i h0 h1 hn hk
    obtain ⟨k, rfl⟩ : ∃ m, k = m + 1 := ⟨k - 1, by omega⟩
    simp only [flashlockref02_Rest.l0]
    by_cases h2 : i < N
    · rw [if_pos h2, if_neg (by omega)]; rfl
    · rw [if_neg h2]; rfl
  | succ n ih =>
    intro k y i h0 h1 hn hk
    obtain ⟨k, rfl⟩ : ∃ m, k = m + 1 := ⟨k - 1, by omega⟩
    simp only [flashlockref02_Rest.l0]; rw [if_pos (by omega), if_pos (by omega), rstep_f _ _ _ _ (by omega)]; simp only [Option.bind_some]; rw [ewr (by omega)]
    exact ih k _ _ (by omega) (by omega) (by omega) (by omega)
theorem rrest_f (y x w n : Int) (k : Nat) (hk : 1100 < k) : flashlockref02_Rest.f k y x w n = some (sts x w (many n) y) := by
  unfold flashlockref02_Rest.f
  exact rrest_l x w n (many n) k y 0 (by omega) (by omega) (by unfold many; omega) (by unfold many; omega)
theorem run_l (w : Int) (xs : List Int) (hl : xs.length ≤ 1000) (n : Nat) : ∀ (k : Nat) (y i : Int), 0 ≤ i → (xs.length : Int) - i = n → n + 80 < k →
    ∃ r, ewma_Run.l0 k y w xs xs.length i = some r ∧ flashlockref02_Run.l0 k y w xs i = some r := by
  induction n with
  | zero =>
    intro k y i h0 hn hk
    obtain ⟨k, rfl⟩ : ∃ m, k = m + 1 := ⟨k - 1, by omega⟩
    refine ⟨y, ?_, ?_⟩
    · simp only [ewma_Run.l0]; rw [if_neg (by omega)]
    · simp only [flashlockref02_Run.l0]; rw [if_neg (by omega)]
  | succ n ih =>
    intro k y i h0 hn hk
    obtain ⟨k, rfl⟩ : ∃ m, k = m + 1 := ⟨k - 1, by omega⟩
    obtain ⟨r, h1, h2⟩ := ih k (stepV y (rd xs i) w) (i + 1) (by omega) (by omega) (by omega)
    refine ⟨r, ?_, ?_⟩
    · simp only [ewma_Run.l0]; rw [if_pos (by omega), if_pos h0, if_pos (by omega), step_f]; simp only [Option.bind_some]; rw [ewr (by omega)]; exact h1
    · simp only [flashlockref02_Run.l0]; rw [if_pos (by omega), if_pos h0, rstep_f _ _ _ _ (by omega)]; simp only [Option.bind_some]; rw [ewr (by omega)]; exact h2
theorem ewma_lives : flashlocklaw02_lives.f = some true := by decide +kernel
theorem tells_l (avg w n : Int) (xs : List Int) (hl : xs.length ≤ 50) (hw : ∀ x ∈ xs, (Lit.int .i64 x).wf = true) (m : Nat) : ∀ (k : Nat) (i : Int), 0 ≤ i → (xs.length : Int) - i = m → m + 1300 < k →
    flashlocklaw02_EwmaTells.l0 k xs avg w n xs xs.length i = some true := by
  induction m with
  | zero =>
    intro k i h0 hn hk
    obtain ⟨k, rfl⟩ : ∃ m, k = m + 1 := ⟨k - 1, by omega⟩
    simp only [flashlocklaw02_EwmaTells.l0]; rw [if_neg (by omega)]
    obtain ⟨r, h1, h2⟩ := run_l w xs (by omega) xs.length k avg 0 (by omega) (by omega) (by omega)
    unfold ewma_Run.f flashlockref02_Run.f
    rw [h1, h2]; simp only [Option.bind_some, if_true, ewma_lives]
  | succ m ih =>
    intro k i h0 hn hk
    obtain ⟨k, rfl⟩ : ∃ m, k = m + 1 := ⟨k - 1, by omega⟩
    have hlt : i.toNat < xs.length := by omega
    have hrd : rd xs i = xs[i.toNat] := by unfold rd; rw [List.getD_eq_getElem?_getD, List.getElem?_eq_getElem hlt]; rfl
    have hb := bounds_i64 (hw _ (List.getElem_mem hlt))
    rw [← hrd] at hb
    simp only [flashlocklaw02_EwmaTells.l0]; rw [if_pos (by omega), if_pos h0, if_pos (by omega)]
    rw [floor_f, rfloor_f _ _ hb k (by omega), step_f, rstep_f _ _ _ k (by omega), rest_f _ _ _ _ k (by omega), rrest_f _ _ _ _ k (by omega)]
    simp only [Option.bind_some, if_true]
    rw [ewr (by omega)]; exact ih k (i + 1) (by omega) (by omega) (by omega)
theorem EwmaTells : ∀ (a0_0 : Int) (a0_1 : Int) (a0_2 : Int) (l1 : List Int), (Lit.int .i64 a0_0).wf = true → (Lit.int .i64 a0_1).wf = true → (Lit.int .i64 a0_2).wf = true → l1.length ≤ maxLen → l1.length * 8 ≤ 140737488351232 → (∀ x ∈ l1, (Lit.int .i64 x).wf = true) → ∃ k, flashlocklaw02_EwmaTells.f k a0_0 a0_1 a0_2 l1 = some true := by
  intro avg w n xs _ _ _ _ _ hw
  refine ⟨2000, ?_⟩
  unfold flashlocklaw02_EwmaTells.f
  by_cases h : (xs.length : Int) > 50
  · rw [if_pos h, ewma_lives]; rfl
  · rw [if_neg h]; exact tells_l avg w n xs (by omega) hw xs.length 2000 0 (by omega) (by omega) (by omega)
end Go.Proofs.Ytkgcoeagifjbpaa.Pure
