/- math.Ldexp: 20 up, 20 down. -/
import Derived.Test.YtclfambjkolckaaShareV3
import Derived.Test.YtclfambjkolckaaShareL
namespace Go.Proofs.Ytclfambjkolckaa.Fl
open Go Go.RowKit Ieee Go.Proofs.Ytclfambjkolckaa.ShareM
set_option linter.unusedVariables false
set_option linter.unusedSimpArgs false
theorem ng_lo {x : Nat} (h : x < 9223372036854775808) : ng x = false := by unfold ng; rw [Nat.div_eq_of_lt h]; rfl
theorem rg_lo {x : Nat} (h : x < 9223372036854775808) : rg x = x := by unfold rg; omega
theorem word_false (r : Nat) : double.word false r = r := rfl
theorem one_mul {X : Nat} (h : X < 9218868437227405312) (hs : sh X ≤ 2045) : FloatKind.f64.format.mul 4607182418800017408 X = some X := by
  obtain ⟨r, h1, h2, h3⟩ := up_mul (x := X) 0 (by omega) (by rw [rg_lo (by omega)]; exact h) (by rw [rg_lo (by omega)]; omega)
  rw [rg_lo (by omega), Nat.pow_zero, Nat.mul_one] at h2
  rw [vl_inj h2, ng_lo (by omega), word_false] at h1
  exact h1
theorem abs_far {x : Nat} (h : x < 9218868437227405312) : (FloatKind.f64.format.order (absw x) 9218868437227405311 == some Ordering.gt) = false := by
  unfold absw
  rw [abs_bits (by omega), rg_lo (by omega), far_iff (by rw [rg_lo (by omega)]; omega), rg_lo (by omega), decide_eq_false (by omega), Bool.and_false]
theorem abs_small {x : Nat} (h : x < 9218868437227405312) : (FloatKind.f64.format.order (absw x) 4503599627370496 == some Ordering.lt) = decide (x < 4503599627370496) := by
  unfold absw
  rw [abs_bits (by omega), rg_lo (by omega), fo_sv (by rw [rg_lo (by omega)]; omega) (by decide), sv_of (ng_lo (by omega)) (rg_lo (by omega)), sv_of (x := 4503599627370496) (r := 4503599627370496) (by decide) (by decide)]
  rcases Nat.lt_trichotomy x 4503599627370496 with h1 | h1 | h1
  · rw [Int.compare_eq_lt.2 (by have := vl_lt h1; omega), decide_eq_true h1]; rfl
  · subst h1; rw [cmp_eq]; rfl
  · rw [Int.compare_eq_gt.2 (by have := vl_lt h1; omega), decide_eq_false (by omega)]; rfl
/-- a normal number, k up -/
theorem ldexp_n {x : Nat} (k : Int) (hk : -100 ≤ k ∧ k ≤ 100) (h1 : 4503599627370496 ≤ x) (h2 : x < 9218868437227405312) {E : Nat} (hE : ((E : Nat) : Int) = (x / 4503599627370496 : Nat) + k) (hE1 : 1 ≤ E) (hE2 : E ≤ 2046) (w : World) :
    Calls Try.prog 164 #[.float .f64 x, .int .i64 k] w fun e w' => e = .returned (.float .f64 (E * 4503599627370496 + x % 4503599627370496)) ∧ w = w' := by
  have hz : ¬ rg x = 0 := by rw [rg_lo (by omega)]; omega
  have hx := rg_lo (x := x) (by omega)
  have hb : E * 4503599627370496 + x % 4503599627370496 < 9218868437227405312 := by omega
  refine ldexp_norm x x (E * 4503599627370496 + x % 4503599627370496) (E * 4503599627370496 + x % 4503599627370496) k 0 ((x / 4503599627370496 % 2048 : Nat) : Int) w ?_ (fun w => normalize_big x w ?_) ?_ (abs_far h2) (exp_bits (by omega)) (by omega) (by omega) hk.1 hk.2 (by omega) (by omega) (by omega) (by omega) ?_ ?_
  · rw [o_pos (by omega) (ng_lo (by omega)) hz]; rfl
  · rw [abs_small h2, decide_eq_false (by omega)]
  · exact t_num (by omega)
  · exact put_bits (by omega) E (by omega) (by omega)
  · exact one_mul hb (by unfold sh; omega)
theorem mul_down53 {X : Nat} (x E : Nat) (hx : x ≠ 0) (hx2 : x < 4503599627370496) (hE : 1 ≤ E) (hE2 : E ≤ 32) (h : mg X = x * 2 ^ (53 - E)) (hs : sh X = E + 20) (hX : X < 9218868437227405312) :
    ∃ r, FloatKind.f64.format.mul 4368491638549381120 X = some r ∧ vl r = x * 1048576 ∧ r < 9218868437227405312 := by
  show ∃ r, double.mul 4368491638549381120 X = some r ∧ _
  have e : double.read 4368491638549381120 = .number false 4503599627370496 (-105) := by decide
  obtain ⟨r, h1, h2, h3⟩ := nearest_vl false x (105 - E) 20 (-105 + (-1074 + ((E + 20 : Nat) : Int))) hx (by omega) (by omega) (by omega)
  refine ⟨r, ?_, h2, h3⟩
  unfold Format.mul
  rw [e, read_fin (by rw [rg_lo (by omega)]; exact hX), rg_lo (by omega), ng_lo (by omega), h, hs]
  simp only [Datum.product, Option.map_some, Format.write, Bool.xor_false]
  have e2 : 4503599627370496 * (x * 2 ^ (53 - E)) = x * 2 ^ (105 - E) := by
    rw [Nat.mul_left_comm, show (4503599627370496 : Nat) = 2 ^ 52 from rfl, ← Nat.pow_add, show 52 + (53 - E) = 105 - E by omega]
  rw [e2, h1, word_false]
/-- 20 up, between 0 and 1 -/
theorem ldexp_up {x y : Nat} (hx : x < 18446744073709551616) (h : In01 x) (hy : double.mul x 4697254411347427328 = some y) (w : World) :
    Calls Try.prog 132 #[.float .f64 x, .int .i64 20] w fun e w' => e = .returned (.float .f64 y) ∧ w = w' := by
  refine ldexp_top x y 20 w ?_
  obtain ⟨ry, h1, h2, h3⟩ := up20 h
  have hyr : y = double.word (ng x) ry := by rw [hy] at h1; exact Option.some.inj h1
  clear h1 hy
  by_cases h0 : rg x = 0
  · have : ry = 0 := by
      refine vl_inj ?_
      rw [h2, h0, vl_zero, Nat.zero_mul]
    rw [hyr, this]
    have := ldexp_zero x 20 w (by rw [o_nul h0]; rfl)
    rwa [show double.word (ng x) 0 = x by rw [← h0]; exact of_word hx]
  have hn : ng x = false := h.2.resolve_right h0
  have hlo : x < 9223372036854775808 := by
    have := of_word hx; rw [hn, word_false] at this; have := rg_lt x; omega
  have hr := rg_lo hlo
  have hle := h.1
  rw [hr] at h0 h2 hle
  rw [hyr, hn, word_false]
  by_cases hs : 4503599627370496 ≤ x
  · have hb := ldexp_n 20 (by omega) hs (by omega) (E := x / 4503599627370496 + 20) (by omega) (by omega) (by omega) w
    have e : ry = (x / 4503599627370496 + 20) * 4503599627370496 + x % 4503599627370496 := by
      refine vl_inj ?_
      have e1 := vl_at (x / 4503599627370496 + 20) (x % 4503599627370496) (by omega) (by omega)
      have e2 := vl_at (x / 4503599627370496) (x % 4503599627370496) (by omega) (by omega)
      rw [show x / 4503599627370496 * 4503599627370496 + x % 4503599627370496 = x by omega] at e2
      rw [e1, h2, e2, show x / 4503599627370496 + 20 - 1 = (x / 4503599627370496 - 1) + 20 by omega, pw_add, Nat.mul_assoc]; rfl
    rw [e]; exact hb
  · obtain ⟨r1, m1, m2, m3⟩ := mul_up (x := x) 52 (by omega) (by omega) (by unfold sh; omega)
    have hv : vl x = x := vl_small (by omega)
    rw [hn, word_false] at m1
    rw [hr, hv] at m2
    rw [hv] at h2
    have hr1 : 4503599627370496 ≤ r1 := by
      refine Nat.le_of_not_lt fun hc => ?_
      have := vl_lt hc
      rw [m2, vl_small (by omega)] at this
      have : 1 * 2 ^ 52 ≤ x * 2 ^ 52 := Nat.mul_le_mul_right _ (by omega)
      omega
    have e2 := vl_at (r1 / 4503599627370496) (r1 % 4503599627370496) (by omega) (by omega)
    rw [show r1 / 4503599627370496 * 4503599627370496 + r1 % 4503599627370496 = r1 by omega, m2] at e2
    have hE : r1 / 4503599627370496 ≤ 52 := by
      refine Nat.le_of_not_lt fun hc => ?_
      have : pw 52 ≤ pw (r1 / 4503599627370496 - 1) := Nat.pow_le_pow_right (by omega) (by omega)
      have h5 : 4503599627370496 * pw 52 ≤ (4503599627370496 + r1 % 4503599627370496) * pw (r1 / 4503599627370496 - 1) := Nat.mul_le_mul (by omega) this
      rw [← e2, pw_52] at h5
      omega
    have t0 : (FloatKind.f64.format.order x 0 == some Ordering.eq) = false := by rw [o_pos (by omega) hn (by omega)]; rfl
    have tn : ∀ w, Calls Try.prog 170 #[.float .f64 x] w fun e' w' => e' = .returned (.tuple #[.float .f64 r1, .int .i64 (-52)]) ∧ w = w' := fun w =>
      normalize_small x r1 w (by rw [abs_small (by omega), decide_eq_true (by omega)]) m1
    by_cases h33 : 33 ≤ r1 / 4503599627370496
    · have e : ry = (r1 / 4503599627370496 - 32) * 4503599627370496 + r1 % 4503599627370496 := by
        refine vl_inj ?_
        have e1 := vl_at (r1 / 4503599627370496 - 32) (r1 % 4503599627370496) (by omega) (by omega)
        refine Nat.eq_of_mul_eq_mul_right (pw_pos 32) ?_
        rw [e1, h2, Nat.mul_assoc, Nat.mul_assoc, ← pw_add, show r1 / 4503599627370496 - 32 - 1 + 32 = r1 / 4503599627370496 - 1 by omega, ← e2]
        rfl
      have hb : (r1 / 4503599627370496 - 32) * 4503599627370496 + r1 % 4503599627370496 < 9218868437227405312 := by omega
      rw [e]
      refine ldexp_norm x r1 ((r1 / 4503599627370496 - 32) * 4503599627370496 + r1 % 4503599627370496) ((r1 / 4503599627370496 - 32) * 4503599627370496 + r1 % 4503599627370496) 20 (-52) ((r1 / 4503599627370496 % 2048 : Nat) : Int) w t0 tn (t_num (by omega)) (abs_far (by omega)) (exp_bits (by omega)) (by omega) (by omega) (by omega) (by omega) (by omega) (by omega) (by omega) (by omega) ?_ ?_
      · exact put_bits (by omega) (r1 / 4503599627370496 - 32) (by omega) (by omega)
      · exact one_mul hb (by unfold sh; omega)
    · obtain ⟨E, hEE⟩ : ∃ E, E = r1 / 4503599627370496 := ⟨_, rfl⟩
      have hX : (E + 21) * 4503599627370496 + r1 % 4503599627370496 < 9218868437227405312 := by omega
      have g1 : mg ((E + 21) * 4503599627370496 + r1 % 4503599627370496) = 4503599627370496 + r1 % 4503599627370496 := by unfold mg; rw [if_neg (by omega)]; omega
      have g2 : sh ((E + 21) * 4503599627370496 + r1 % 4503599627370496) = E + 20 := by unfold sh; omega
      have g3 : 4503599627370496 + r1 % 4503599627370496 = x * 2 ^ (53 - E) := by
        refine Nat.eq_of_mul_eq_mul_right (pw_pos (E - 1)) ?_
        rw [hEE, ← e2, Nat.mul_assoc]
        congr 1
        show 2 ^ 52 = 2 ^ (53 - r1 / 4503599627370496) * 2 ^ (r1 / 4503599627370496 - 1)
        rw [← Nat.pow_add, show 53 - r1 / 4503599627370496 + (r1 / 4503599627370496 - 1) = 52 by omega]
      obtain ⟨r, q1, q2, q3⟩ := mul_down53 (X := (E + 21) * 4503599627370496 + r1 % 4503599627370496) x E (by omega) (by omega) (by omega) (by omega) (by rw [g1, g3]) g2 hX
      have e : ry = r := vl_inj (by rw [h2, q2])
      rw [e]
      refine ldexp_den x r1 ((E + 21) * 4503599627370496 + r1 % 4503599627370496) r 20 (-52) ((r1 / 4503599627370496 % 2048 : Nat) : Int) w t0 tn (t_num (by omega)) (abs_far (by omega)) (exp_bits (by omega)) (by omega) (by omega) (by omega) (by omega) (by omega) (by omega) (by omega) (by omega) ?_ q1
      exact put_bits (by omega) (E + 21) (by omega) (by omega)
end Go.Proofs.Ytclfambjkolckaa.Fl
