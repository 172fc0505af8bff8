/- What the share functions come to, in whole numbers. -/
import Derived.Test.YtclfambjkolckaaFBits
import Derived.Laws.FloatArith
namespace Go.Proofs.Ytclfambjkolckaa.Fl
open Go Go.RowKit
set_option linter.unusedVariables false
set_option linter.unusedSimpArgs false
abbrev FO (x y : Nat) : Option Ordering := FloatKind.f64.format.order x y
theorem fo_sv {x y : Nat} (hx : rg x ≤ 9218868437227405312) (hy : rg y ≤ 9218868437227405312) : FloatKind.f64.format.order x y = some (compare (sv x) (sv y)) := order_sv hx hy
theorem fo_nan {x y : Nat} (h : 9218868437227405312 < rg x ∨ 9218868437227405312 < rg y) : FloatKind.f64.format.order x y = none := order_nan h
theorem sv_zero : sv 0 = 0 := by decide
theorem vl_zero : vl 0 = 0 := by decide
theorem vl_pos {r : Nat} (h : r ≠ 0) : 0 < vl r := by have := vl_lt (show 0 < r by omega); rw [vl_zero] at this; exact this
/-- 1, as a word; its size -/
theorem sv_one : sv 4607182418800017408 = (pw 1074 : Nat) := by
  have e1 : ng 4607182418800017408 = false := by decide
  have e2 : rg 4607182418800017408 = 1023 * 4503599627370496 + 0 := by decide
  unfold sv
  rw [e1, e2, vl_at 1023 0 (by omega) (by omega), if_neg (by decide), Nat.add_zero, ← pw_52, ← pw_add]
theorem sv_half : sv 4602678819172646912 = (pw 1073 : Nat) := by
  have e1 : ng 4602678819172646912 = false := by decide
  have e2 : rg 4602678819172646912 = 1022 * 4503599627370496 + 0 := by decide
  unfold sv
  rw [e1, e2, vl_at 1022 0 (by omega) (by omega), if_neg (by decide), Nat.add_zero, ← pw_52, ← pw_add]
theorem rg_one : rg 4607182418800017408 = 4607182418800017408 := by decide
/-! ### what kind a float is -/
def cl (x : Nat) : Int :=
  if 9218868437227405312 < rg x then 0
  else if rg x = 9218868437227405312 then (if ng x then 1 else 6)
  else if rg x = 0 then (if ng x then 3 else 4)
  else (if ng x then 2 else 5)
theorem sv_inj {x y : Nat} (hx : x < 18446744073709551616) (hy : y < 18446744073709551616) (h : sv x = sv y) (hn : ng x = ng y) : x = y := by
  have : rg x = rg y := by
    unfold sv at h; rw [hn] at h
    cases hb : ng y <;> rw [hb] at h <;> simp at h <;> exact vl_inj (by omega)
  rw [← of_word hx, ← of_word hy, hn, this]
theorem sv_neg {x : Nat} (h : ng x = true) (h0 : rg x ≠ 0) : sv x < 0 := by
  have := vl_pos h0; unfold sv; rw [h]; simp only [if_true]; omega
theorem sv_pos {x : Nat} (h : ng x = false) (h0 : rg x ≠ 0) : 0 < sv x := by
  have := vl_pos h0; unfold sv; rw [h]; simp; omega
theorem sv_nul {x : Nat} (h : rg x = 0) : sv x = 0 := by
  unfold sv; rw [h, vl_zero]; cases ng x <;> simp
theorem sv_of {x r : Nat} (h : ng x = false) (hr : rg x = r) : sv x = (vl r : Nat) := by unfold sv; rw [h, hr, if_neg (by decide)]
theorem max_sv : sv 9218868437227405311 = (vl 9218868437227405311 : Nat) := sv_of (by decide) (by decide)
theorem vl_le {r s : Nat} (h : r ≤ s) : vl r ≤ vl s := by
  rcases Nat.lt_or_eq_of_le h with h2 | h2
  · exact Nat.le_of_lt (vl_lt h2)
  · rw [h2]; exact Nat.le_refl _
theorem far_M {x M : Nat} (h : rg x ≤ 9218868437227405312) (h1 : ∀ r, r ≤ 9218868437227405311 → vl r ≤ M) (h2 : M < vl 9218868437227405312) :
    (some (compare (sv x) (M : Int)) == some Ordering.gt) = (!ng x && decide (rg x = 9218868437227405312)) := by
  unfold sv
  cases hb : ng x
  · simp only [Bool.false_eq_true, if_false, Bool.not_false, Bool.true_and]
    rcases Nat.lt_or_eq_of_le h with h3 | h3
    · have := h1 (rg x) (by omega)
      rw [decide_eq_false (by omega)]
      have : compare ((vl (rg x) : Nat) : Int) (M : Int) ≠ .gt := fun hc => by
        have := Int.compare_eq_gt.1 hc; omega
      simpa using this
    · rw [h3] at *
      rw [Int.compare_eq_gt.2 (by omega)]; rfl
  · simp only [if_true, Bool.not_true, Bool.false_and]
    rw [Int.compare_eq_lt.2 ?_]
    · rfl
    · by_cases h0 : rg x = 0
      · have h4 := h1 1 (by omega)
        have h5 := vl_pos (show (1 : Nat) ≠ 0 by omega)
        omega
      · have h5 := vl_pos h0
        omega
/-- is it above the greatest number? -/
theorem far_iff {x : Nat} (h : rg x ≤ 9218868437227405312) : (FloatKind.f64.format.order x 9218868437227405311 == some Ordering.gt) = (!ng x && decide (rg x = 9218868437227405312)) := by
  rw [fo_sv h (by decide), max_sv]
  exact far_M h (fun r hr => vl_le hr) (vl_lt (by omega))
theorem cmp_eq (a : Int) : compare a a = Ordering.eq := Int.compare_eq_eq.2 rfl
/-- the tests on a float of each kind -/
theorem t_nan {x : Nat} (h : 9218868437227405312 < rg x) : (FloatKind.f64.format.order x x != some Ordering.eq) = true := by rw [fo_nan (.inl h)]; rfl
theorem t_num {x : Nat} (h : rg x ≤ 9218868437227405312) : (FloatKind.f64.format.order x x != some Ordering.eq) = false := by rw [fo_sv h h, cmp_eq]; rfl
theorem o_neg {x : Nat} (h : rg x ≤ 9218868437227405312) (hn : ng x = true) (h0 : rg x ≠ 0) : FloatKind.f64.format.order x 0 = some .lt := by
  rw [fo_sv h (by decide), sv_zero, Int.compare_eq_lt.2 (sv_neg hn h0)]
theorem o_pos {x : Nat} (h : rg x ≤ 9218868437227405312) (hn : ng x = false) (h0 : rg x ≠ 0) : FloatKind.f64.format.order x 0 = some .gt := by
  rw [fo_sv h (by decide), sv_zero, Int.compare_eq_gt.2 (sv_pos hn h0)]
theorem o_nul {x : Nat} (h0 : rg x = 0) : FloatKind.f64.format.order x 0 = some .eq := by
  rw [fo_sv (by omega) (by decide), sv_zero, sv_nul h0, cmp_eq]
theorem rg_lt (x : Nat) : rg x < 9223372036854775808 := by unfold rg; omega
end Go.Proofs.Ytclfambjkolckaa.Fl
