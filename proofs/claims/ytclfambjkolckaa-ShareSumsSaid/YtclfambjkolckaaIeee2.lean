/- Floats of 64 bits in whole numbers: products with powers of two, quotients by two, numbers made floats. -/
import Derived.Test.YtclfambjkolckaaIeee
namespace Go.Proofs.Ytclfambjkolckaa.Fl
open Ieee
set_option linter.unusedVariables false
def pw (k : Nat) : Nat := 2 ^ k
theorem pw_pos (k : Nat) : 0 < pw k := Nat.pow_pos (by omega)
theorem pw_add (a b : Nat) : pw (a + b) = pw a * pw b := Nat.pow_add 2 a b
theorem vl_pw (r : Nat) : vl r = mg r * pw (sh r) := rfl
theorem vl_at (e g : Nat) (he : 1 ≤ e) (hg : g ≤ 4503599627370496) : vl (e * 4503599627370496 + g) = (4503599627370496 + g) * pw (e - 1) := vl_of e g he hg
theorem pw_52 : pw 52 = 4503599627370496 := by decide
theorem word_rg (s : Bool) {r : Nat} (h : r < 9223372036854775808) : rg (double.word s r) = r := by
  unfold Format.word rg
  rw [sign_]
  cases s <;> simp <;> omega
theorem word_ng (s : Bool) {r : Nat} (h : r < 9223372036854775808) : ng (double.word s r) = s := by
  unfold Format.word ng
  rw [sign_]
  cases s
  · simp; omega
  · simp; omega
theorem of_word {x : Nat} (h : x < 18446744073709551616) : double.word (ng x) (rg x) = x := by
  unfold Format.word rg ng
  rw [sign_]
  by_cases h1 : x < 9223372036854775808
  · rw [show x / 9223372036854775808 = 0 by omega]; simp; omega
  · rw [show x / 9223372036854775808 = 1 by omega]; simp; omega
theorem read_word (s : Bool) {r : Nat} (h : r < 9218868437227405312) : double.read (double.word s r) = .number s (mg r) (-1074 + (sh r : Nat)) := by
  rw [read_fin (by rw [word_rg s (by omega)]; exact h), word_rg s (by omega), word_ng s (by omega)]
theorem log2_le (m : Nat) (hm : m ≠ 0) (h53 : m < 9007199254740992) : m.log2 ≤ 52 := by
  have := (Nat.log2_lt hm (k := 53)).2 (by omega)
  omega
theorem log2_lo (m : Nat) (hm : m ≠ 0) : 2 ^ m.log2 ≤ m := Nat.log2_self_le hm
theorem log2_hi (m : Nat) (hm : m ≠ 0) : m < 2 ^ (m.log2 + 1) := Nat.lt_log2_self
/-- the rung of 'm * 2 ^ (a - 1074)' -/
def rung (m a : Nat) : Nat := (a + m.log2 - 52) * 4503599627370496 + m * 2 ^ (a - (a + m.log2 - 52))
theorem vl_rung (m a : Nat) (hm : m ≠ 0) (h53 : m < 9007199254740992) : vl (rung m a) = m * 2 ^ a := by
  have hL := log2_le m hm h53
  have lo := log2_lo m hm
  have hi := log2_hi m hm
  unfold rung
  rcases Nat.lt_or_ge (a + m.log2) 52 with h | h
  · rw [show a + m.log2 - 52 = 0 by omega, Nat.zero_mul, Nat.zero_add, Nat.sub_zero]
    refine vl_small (Nat.le_of_lt (Nat.lt_of_lt_of_le (Nat.mul_lt_mul_of_pos_right hi (Nat.pow_pos (by omega))) ?_))
    rw [← Nat.pow_add]
    exact Nat.le_trans (Nat.pow_le_pow_right (by omega) (show m.log2 + 1 + a ≤ 53 by omega)) (by decide)
  · have e1 : a - (a + m.log2 - 52) = 52 - m.log2 := by omega
    rw [e1]
    have lo2 : 4503599627370496 ≤ m * 2 ^ (52 - m.log2) := by
      refine Nat.le_trans ?_ (Nat.mul_le_mul_right _ lo)
      rw [← Nat.pow_add, Nat.add_sub_cancel' hL]
      decide
    have hi2 : m * 2 ^ (52 - m.log2) < 9007199254740992 := by
      refine Nat.lt_of_lt_of_le (Nat.mul_lt_mul_of_pos_right hi (Nat.pow_pos (by omega))) ?_
      rw [← Nat.pow_add, show m.log2 + 1 + (52 - m.log2) = 53 by omega]
      decide
    have := vl_of (a + m.log2 - 52 + 1) (m * 2 ^ (52 - m.log2) - 4503599627370496) (by omega) (by omega)
    rw [show (a + m.log2 - 52 + 1) * 4503599627370496 + (m * 2 ^ (52 - m.log2) - 4503599627370496) = (a + m.log2 - 52) * 4503599627370496 + m * 2 ^ (52 - m.log2) by omega] at this
    rw [this, show 4503599627370496 + (m * 2 ^ (52 - m.log2) - 4503599627370496) = m * 2 ^ (52 - m.log2) by omega, show a + m.log2 - 52 + 1 - 1 = a + m.log2 - 52 by omega, Nat.mul_assoc, ← Nat.pow_add]
    congr 2; omega
/-- to the nearest word of what is a word -/
theorem nearest_vl (s : Bool) (m j a : Nat) (p : Int) (hm : m ≠ 0) (h53 : m < 9007199254740992) (hp : p + j + 1074 = a) (hmax : a ≤ 2045) :
    ∃ r, double.nearest s (m * 2 ^ j) p = double.word s r ∧ vl r = m * pw a ∧ r < 9218868437227405312 := by
  have hv : vl (rung m a) = m * pw a := vl_rung m a hm h53
  have hL := log2_le m hm h53
  have hr : rung m a < 9218868437227405312 := by
    have hi := log2_hi m hm
    have h2 : m * 2 ^ (a - (a + m.log2 - 52)) < 9007199254740992 := by
      refine Nat.lt_of_lt_of_le (Nat.mul_lt_mul_of_pos_right hi (Nat.pow_pos (by omega))) ?_
      rw [← Nat.pow_add]
      exact Nat.le_trans (Nat.pow_le_pow_right (by omega) (show _ ≤ 53 by omega)) (by decide)
    unfold rung
    generalize m * 2 ^ (a - (a + m.log2 - 52)) = z at h2 ⊢
    omega
  refine ⟨rung m a, ?_, hv, hr⟩
  rw [nearest_at s m j p hm h53 (by omega)]
  congr 1
  unfold rung at hr ⊢
  rw [show (max (p + (j : Int) + (m.log2 : Int) - 52) (-1074) + 1074).toNat = a + m.log2 - 52 by omega, show (p + (j : Int) - max (p + (j : Int) + (m.log2 : Int) - 52) (-1074)).toNat = a - (a + m.log2 - 52) by omega]
  omega
theorem nearest_zero (s : Bool) (p : Int) : double.nearest s 0 p = double.word s 0 := by
  unfold Format.nearest; rw [if_pos rfl]
theorem mg_lt (r : Nat) : mg r < 9007199254740992 := by unfold mg; split <;> omega
theorem mg_zero {r : Nat} (h : mg r = 0) : r = 0 := by unfold mg at h; split at h <;> omega
/-- 2 ^ k as a word -/
theorem read_pow (k : Nat) (hk : k < 1000) : double.read ((1023 + k) * 4503599627370496) = .number false 4503599627370496 ((k : Int) - 52) := by
  have h : rg ((1023 + k) * 4503599627370496) = (1023 + k) * 4503599627370496 := by unfold rg; omega
  rw [read_fin (by rw [h]; omega), h]
  have e1 : ng ((1023 + k) * 4503599627370496) = false := by
    unfold ng; rw [show (1023 + k) * 4503599627370496 / 9223372036854775808 = 0 by omega]; rfl
  have e2 : mg ((1023 + k) * 4503599627370496) = 4503599627370496 := by
    unfold mg; rw [if_neg (by omega)]; omega
  have e3 : sh ((1023 + k) * 4503599627370496) = 1022 + k := by unfold sh; omega
  rw [e1, e2, e3]
  congr 1; omega
/-- times 2 ^ k -/
theorem mul_up {x : Nat} (k : Nat) (hk : k < 1000) (hx : rg x < 9218868437227405312) (hmax : sh (rg x) + k ≤ 2045) :
    ∃ r, double.mul x ((1023 + k) * 4503599627370496) = some (double.word (ng x) r) ∧ vl r = vl (rg x) * 2 ^ k ∧ r < 9218868437227405312 := by
  unfold Format.mul
  rw [read_fin hx, read_pow k hk]
  simp only [Datum.product, Option.map_some, Format.write, Bool.xor_false]
  by_cases h0 : mg (rg x) = 0
  · refine ⟨0, ?_, ?_, by omega⟩
    · rw [h0, Nat.zero_mul, nearest_zero]
    · unfold vl; rw [h0, Nat.zero_mul, Nat.zero_mul]; decide
  · obtain ⟨r, h1, h2, h3⟩ := nearest_vl (ng x) (mg (rg x)) 52 (sh (rg x) + k) (-1074 + ((sh (rg x) : Nat) : Int) + ((k : Int) - 52)) h0 (mg_lt _) (by omega) hmax
    refine ⟨r, ?_, ?_, h3⟩
    · rw [← h1]
    · rw [h2, pw_add, ← Nat.mul_assoc]; rfl
/-- 2 ^ k times -/
theorem up_mul {x : Nat} (k : Nat) (hk : k < 1000) (hx : rg x < 9218868437227405312) (hmax : sh (rg x) + k ≤ 2045) :
    ∃ r, double.mul ((1023 + k) * 4503599627370496) x = some (double.word (ng x) r) ∧ vl r = vl (rg x) * 2 ^ k ∧ r < 9218868437227405312 := by
  obtain ⟨r, h1, h2, h3⟩ := mul_up k hk hx hmax
  refine ⟨r, ?_, h2, h3⟩
  rw [← h1]
  unfold Format.mul
  rw [read_fin hx, read_pow k hk]
  simp only [Datum.product, Bool.xor_false, Bool.false_xor, Nat.mul_comm, Int.add_comm]
/-- a whole number as a float -/
theorem float_of {n : Nat} (h : n < 9007199254740992) : ∃ r, double.nearest false n 0 = r ∧ rg r = r ∧ ng r = false ∧ vl r = n * pw 1074 ∧ r < 9218868437227405312 := by
  by_cases h0 : n = 0
  · subst h0
    refine ⟨0, ?_, rfl, by decide, ?_, by omega⟩
    · rw [nearest_zero]; rfl
    · rw [Nat.zero_mul]; decide
  · obtain ⟨r, h1, h2, h3⟩ := nearest_vl false n 0 1074 0 h0 h (by omega) (by omega)
    rw [Nat.pow_zero, Nat.mul_one] at h1
    have e : double.word false r = r := by unfold Format.word; rfl
    rw [e] at h1
    refine ⟨r, h1, by unfold rg; omega, ?_, h2, h3⟩
    unfold ng; rw [show r / 9223372036854775808 = 0 by omega]; rfl
end Go.Proofs.Ytclfambjkolckaa.Fl
