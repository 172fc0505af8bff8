/- Floats of 64 bits in whole numbers: a word's size in units of the least one; order, exactness. -/
import GoSem.Core.Float
import Derived.WalkKit
import Derived.Test.YtclfambjkolckaaProg
import Derived.Lib.Hide
import Derived.WalkLawsBesides
import Derived.Outline
import Derived.Laws.FloatArith
-- part: Ieee
namespace Go.Proofs.Ytclfambjkolckaa.Fl
open Ieee
set_option linter.unusedVariables false
theorem binade_ : double.binade = 4503599627370496 := by decide
theorem least_ : double.leastPlace = -1074 := by decide
theorem inf_ : double.infRung = 9218868437227405312 := by decide
theorem sign_ : double.signWeight = 9223372036854775808 := by decide
theorem frac_ : double.fractionBits = 52 := rfl
/-- rung, sign -/
def rg (x : Nat) : Nat := x % 9223372036854775808
def ng (x : Nat) : Bool := x / 9223372036854775808 % 2 == 1
def mg (r : Nat) : Nat := if r < 4503599627370496 then r else 4503599627370496 + r % 4503599627370496
def sh (r : Nat) : Nat := r / 4503599627370496 - 1
/-- the size of a rung, in units of 2 ^ -1074 -/
def vl (r : Nat) : Nat := mg r * 2 ^ sh r
def sv (x : Nat) : Int := if ng x then -(vl (rg x) : Int) else vl (rg x)
def isNan (x : Nat) : Bool := decide (9218868437227405312 < rg x)
theorem read_fin {x : Nat} (h : rg x < 9218868437227405312) : double.read x = .number (ng x) (mg (rg x)) (-1074 + (sh (rg x) : Nat)) := by
  unfold Format.read
  simp only [binade_, least_, inf_, sign_]
  unfold rg at h ⊢
  unfold ng mg sh
  by_cases h1 : x % 9223372036854775808 < 4503599627370496
  · rw [if_pos h1, if_pos h1, Nat.div_eq_of_lt h1]; rfl
  · rw [if_neg h1, if_neg h1, if_pos h]
theorem read_inf {x : Nat} (h : rg x = 9218868437227405312) : double.read x = .infinity (ng x) := by
  unfold Format.read
  simp only [binade_, least_, inf_, sign_]
  unfold rg at h; unfold ng
  rw [if_neg (by omega), if_neg (by omega), if_pos h]
theorem read_nan {x : Nat} (h : 9218868437227405312 < rg x) : double.read x = .nan (ng x) (rg x - 9218868437227405312) := by
  unfold Format.read
  simp only [binade_, least_, inf_, sign_]
  unfold rg at h; unfold ng rg
  rw [if_neg (by omega), if_neg (by omega), if_neg (by omega)]
/-- a rung as exponent and fraction; the fraction may come up to a whole binade -/
theorem vl_of (e g : Nat) (he : 1 ≤ e) (hg : g ≤ 4503599627370496) : vl (e * 4503599627370496 + g) = (4503599627370496 + g) * 2 ^ (e - 1) := by
  unfold vl mg sh
  rcases Nat.lt_or_eq_of_le hg with h | h
  · rw [if_neg (by omega), show (e * 4503599627370496 + g) % 4503599627370496 = g by omega, show (e * 4503599627370496 + g) / 4503599627370496 = e by omega]
  · subst h
    rw [if_neg (by omega), show (e * 4503599627370496 + 4503599627370496) % 4503599627370496 = 0 by omega, show (e * 4503599627370496 + 4503599627370496) / 4503599627370496 - 1 = (e - 1) + 1 by omega, Nat.pow_succ]
    omega
theorem vl_small {r : Nat} (h : r ≤ 9007199254740992) : vl r = r := by
  by_cases h1 : r < 4503599627370496
  · unfold vl mg sh
    rw [if_pos h1, Nat.div_eq_of_lt h1]; simp
  · have := vl_of 1 (r - 4503599627370496) (by omega) (by omega)
    rw [show 1 * 4503599627370496 + (r - 4503599627370496) = r by omega] at this
    rw [this]; simp
theorem vl_step (r : Nat) : vl r < vl (r + 1) := by
  by_cases h : r < 4503599627370496
  · rw [vl_small (by omega), vl_small (by omega)]; omega
  · obtain ⟨e, g, he, hg, rfl⟩ : ∃ e g, 1 ≤ e ∧ g < 4503599627370496 ∧ r = e * 4503599627370496 + g := ⟨r / 4503599627370496, r % 4503599627370496, by omega, by omega, by omega⟩
    rw [vl_of e g he (by omega), Nat.add_assoc, vl_of e (g + 1) he (by omega)]
    exact Nat.mul_lt_mul_of_pos_right (by omega) (Nat.pow_pos (by omega))
theorem vl_lt {r s : Nat} (h : r < s) : vl r < vl s := by
  obtain ⟨d, rfl⟩ : ∃ d, s = r + 1 + d := ⟨s - r - 1, by omega⟩
  clear h
  induction d with
  | zero => exact vl_step r
  | succ d ih => exact Nat.lt_trans ih (vl_step _)
theorem vl_lt_iff {r s : Nat} : vl r < vl s ↔ r < s := ⟨fun h => Nat.lt_of_not_le fun h' => by
  rcases Nat.lt_or_eq_of_le h' with h2 | h2
  · exact absurd h (Nat.not_lt.2 (Nat.le_of_lt (vl_lt h2)))
  · subst h2; exact absurd h (Nat.lt_irrefl _), vl_lt⟩
theorem vl_inj {r s : Nat} (h : vl r = vl s) : r = s := by
  rcases Nat.lt_trichotomy r s with h1 | h1 | h1
  · have := vl_lt h1; omega
  · exact h1
  · have := vl_lt h1; omega
theorem compare_mul (a b c : Int) (hc : 0 < c) : compare (a * c) (b * c) = compare a b := by
  rcases Int.lt_trichotomy a b with h | h | h
  · rw [Int.compare_eq_lt.2 h, Int.compare_eq_lt.2 (Int.mul_lt_mul_of_pos_right h hc)]
  · subst h; rw [Int.compare_eq_eq.2 rfl, Int.compare_eq_eq.2 rfl]
  · rw [Int.compare_eq_gt.2 h, Int.compare_eq_gt.2 (Int.mul_lt_mul_of_pos_right h hc)]
theorem signed_mul (s : Bool) (m a b : Nat) : signed s m a * ((2 ^ b : Nat) : Int) = signed s m (a + b) := by
  unfold signed
  rw [Nat.shiftLeft_eq, Nat.shiftLeft_eq, Nat.pow_add, ← Nat.mul_assoc]
  cases s <;> simp [Int.neg_mul]
theorem sv_signed (x : Nat) : sv x = signed (ng x) (mg (rg x)) (sh (rg x)) := by
  unfold sv signed vl
  rw [Nat.shiftLeft_eq]
/-- order is the order of sizes -/
theorem order_sv {x y : Nat} (hx : rg x ≤ 9218868437227405312) (hy : rg y ≤ 9218868437227405312) : double.order x y = some (compare (sv x) (sv y)) := by
  unfold Format.order
  have pos : ∀ z, rg z < 9218868437227405312 → (-(vl 9218868437227405312 : Int) < sv z ∧ sv z < (vl 9218868437227405312 : Int)) := fun z hz => by
    have h := vl_lt hz
    unfold sv
    cases ng z <;> simp <;> omega
  rcases Nat.lt_or_eq_of_le hx with h1 | h1 <;> rcases Nat.lt_or_eq_of_le hy with h2 | h2
  · rw [read_fin h1, read_fin h2]
    simp only [Datum.order]
    have hb : ∃ b : Nat, min (-1074 + ((sh (rg x) : Nat) : Int)) (-1074 + ((sh (rg y) : Nat) : Int)) = -1074 + (b : Int) ∧ b ≤ sh (rg x) ∧ b ≤ sh (rg y) := ⟨min (sh (rg x)) (sh (rg y)), by omega, by omega, by omega⟩
    obtain ⟨b, hb, b1, b2⟩ := hb
    rw [hb, show (-1074 + ((sh (rg x) : Nat) : Int) - (-1074 + (b : Int))).toNat = sh (rg x) - b by omega, show (-1074 + ((sh (rg y) : Nat) : Int) - (-1074 + (b : Int))).toNat = sh (rg y) - b by omega]
    rw [← compare_mul _ _ ((2 ^ b : Nat) : Int) (by have := Nat.pow_pos (n := b) (show 0 < 2 by omega); omega), signed_mul, signed_mul, Nat.sub_add_cancel b1, Nat.sub_add_cancel b2, ← sv_signed, ← sv_signed]
  · rw [read_fin h1, read_inf h2]
    simp only [Datum.order]
    have := pos x h1
    have hs : sv y = if ng y then -(vl 9218868437227405312 : Int) else vl 9218868437227405312 := by unfold sv; rw [h2]
    rw [hs]
    cases ng y
    · simp only [Bool.false_eq_true, if_false]; rw [Int.compare_eq_lt.2 this.2]
    · simp only [if_true]; rw [Int.compare_eq_gt.2 this.1]
  · rw [read_inf h1, read_fin h2]
    simp only [Datum.order]
    have := pos y h2
    have hs : sv x = if ng x then -(vl 9218868437227405312 : Int) else vl 9218868437227405312 := by unfold sv; rw [h1]
    rw [hs]
    cases ng x
    · simp only [Bool.false_eq_true, if_false]; rw [Int.compare_eq_gt.2 this.2]
    · simp only [if_true]; rw [Int.compare_eq_lt.2 this.1]
  · rw [read_inf h1, read_inf h2]
    simp only [Datum.order]
    have hp : 0 < vl 9218868437227405312 := Nat.lt_of_le_of_lt (Nat.zero_le (vl 0)) (vl_lt (by omega))
    unfold sv; rw [h1, h2]
    cases ng x <;> cases ng y <;> simp only [Bool.false_eq_true, if_false, if_true]
    · rw [Int.compare_eq_eq.2 rfl]; rfl
    · rw [Int.compare_eq_gt.2 (by omega)]; rfl
    · rw [Int.compare_eq_lt.2 (by omega)]; rfl
    · rw [Int.compare_eq_eq.2 rfl]; rfl
theorem order_nan {x y : Nat} (h : 9218868437227405312 < rg x ∨ 9218868437227405312 < rg y) : double.order x y = none := by
  unfold Format.order
  by_cases hx : 9218868437227405312 < rg x
  · rw [read_nan hx]; rfl
  · have hy : 9218868437227405312 < rg y := by omega
    rw [read_nan hy]
    cases double.read x <;> rfl
/-! ### to the nearest word: where the number is a word's -/
theorem log2_mul_pow (m j : Nat) (hm : m ≠ 0) : (m * 2 ^ j).log2 = m.log2 + j := by
  induction j with
  | zero => simp
  | succ j ih =>
    rw [Nat.pow_succ, ← Nat.mul_assoc, Nat.mul_comm (m * 2 ^ j) 2, Nat.log2_two_mul (by have := Nat.pow_pos (n := j) (show 0 < 2 by omega); exact Nat.mul_ne_zero hm (by omega)), ih]; omega
theorem cut_exact (s : Bool) (m j d : Nat) (hm : m ≠ 0) (hd : d ≤ j) : Toward.even.cut s (m * 2 ^ j) d = m * 2 ^ (j - d) := by
  unfold Toward.cut
  have hl : d ≤ (m * 2 ^ j).log2 := by rw [log2_mul_pow m j hm]; omega
  have hp : 0 < 2 ^ d := Nat.pow_pos (by omega)
  have e : m * 2 ^ j = m * 2 ^ (j - d) * 2 ^ d := by rw [Nat.mul_assoc, ← Nat.pow_add, Nat.sub_add_cancel hd]
  simp only [Nat.min_eq_left (Nat.le_trans hl (Nat.le_add_right _ 2)), Nat.one_shiftLeft]
  rw [e, Nat.mul_div_cancel _ hp, Nat.mul_mod_left]
  simp
/-- 'm * 2 ^ (j + p)' where that is a word -/
theorem nearest_at (s : Bool) (m j : Nat) (p : Int) (hm : m ≠ 0) (h53 : m < 9007199254740992) (hp : -1074 ≤ p + j) :
    double.nearest s (m * 2 ^ j) p = double.word s (min ((max (p + j + m.log2 - 52) (-1074) + 1074).toNat * 4503599627370496 + m * 2 ^ (p + j - max (p + j + m.log2 - 52) (-1074)).toNat) 9218868437227405312) := by
  unfold Format.nearest
  have h0 : m * 2 ^ j ≠ 0 := Nat.mul_ne_zero hm (by have := Nat.pow_pos (n := j) (show 0 < 2 by omega); omega)
  rw [if_neg h0]
  simp only [frac_, least_, binade_, inf_]
  rw [log2_mul_pow m j hm]
  have hl : m.log2 ≤ 52 := by
    have := (Nat.log2_lt hm (k := 53)).2 (by omega)
    omega
  have e1 : p + ((m.log2 + j : Nat) : Int) - ((52 : Nat) : Int) = p + j + m.log2 - 52 := by omega
  rw [e1]
  generalize hL : max (p + (j : Int) + (m.log2 : Int) - 52) (-1074) = L
  have hL1 : L ≤ p + j := by omega
  congr 2
  rcases Int.le_total p L with h | h
  · rw [show (p - L).toNat = 0 by omega, Nat.shiftLeft_zero, cut_exact s m j (L - p).toNat hm (by omega), show j - (L - p).toNat = (p + j - L).toNat by omega]
    congr 2
  · rw [show (L - p).toNat = 0 by omega, Nat.shiftLeft_eq, Nat.mul_assoc, ← Nat.pow_add, cut_exact s m _ 0 hm (by omega), Nat.sub_zero, show j + (p - L).toNat = (p + j - L).toNat by omega]
    congr 2
end Go.Proofs.Ytclfambjkolckaa.Fl
-- part: Ieee2
namespace Go.Proofs.Ytclfambjkolckaa.Fl
open Ieee
set_option linter.unusedVariables false
def pw (k : Nat) : Nat := 2 ^ k
theorem pw_pos (k : Nat) : 0 < pw k := Nat.pow_pos (by omega)
theorem pw_add (a b : Nat) : pw (a + b) = pw a * pw b := Nat.pow_add 2 a b
theorem vl_pw (r : Nat) : vl r = mg r * pw (sh r) := rfl
theorem vl_at (e g : Nat) (he : 1 ≤ e) (hg : g ≤ 4503599627370496) : vl (e * 4503599627370496 + g) = (4503599627370496 + g) * pw (e - 1) := vl_of e g he hg
theorem pw_52 : pw 52 = 4503599627370496 := by decide
theorem word_rg (s : Bool) {r : Nat} (h : r < 9223372036854775808) : rg (double.word s r) = r := by
  unfold Format.word rg
  rw [sign_]
  cases s <;> simp <;> omega
theorem word_ng (s : Bool) {r : Nat} (h : r < 9223372036854775808) : ng (double.word s r) = s := by
  unfold Format.word ng
  rw [sign_]
  cases s
  · simp; omega
  · simp; omega
theorem of_word {x : Nat} (h : x < 18446744073709551616) : double.word (ng x) (rg x) = x := by
  unfold Format.word rg ng
  rw [sign_]
  by_cases h1 : x < 9223372036854775808
  · rw [show x / 9223372036854775808 = 0 by omega]; simp; omega
  · rw [show x / 9223372036854775808 = 1 by omega]; simp; omega
theorem read_word (s : Bool) {r : Nat} (h : r < 9218868437227405312) : double.read (double.word s r) = .number s (mg r) (-1074 + (sh r : Nat)) := by
  rw [read_fin (by rw [word_rg s (by omega)]; exact h), word_rg s (by omega), word_ng s (by omega)]
theorem log2_le (m : Nat) (hm : m ≠ 0) (h53 : m < 9007199254740992) : m.log2 ≤ 52 := by
  have := (Nat.log2_lt hm (k := 53)).2 (by omega)
  omega
theorem log2_lo (m : Nat) (hm : m ≠ 0) : 2 ^ m.log2 ≤ m := Nat.log2_self_le hm
theorem log2_hi (m : Nat) (hm : m ≠ 0) : m < 2 ^ (m.log2 + 1) := Nat.lt_log2_self
/-- the rung of 'm * 2 ^ (a - 1074)' -/
def rung (m a : Nat) : Nat := (a + m.log2 - 52) * 4503599627370496 + m * 2 ^ (a - (a + m.log2 - 52))
theorem vl_rung (m a : Nat) (hm : m ≠ 0) (h53 : m < 9007199254740992) : vl (rung m a) = m * 2 ^ a := by
  have hL := log2_le m hm h53
  have lo := log2_lo m hm
  have hi := log2_hi m hm
  unfold rung
  rcases Nat.lt_or_ge (a + m.log2) 52 with h | h
  · rw [show a + m.log2 - 52 = 0 by omega, Nat.zero_mul, Nat.zero_add, Nat.sub_zero]
    refine vl_small (Nat.le_of_lt (Nat.lt_of_lt_of_le (Nat.mul_lt_mul_of_pos_right hi (Nat.pow_pos (by omega))) ?_))
    rw [← Nat.pow_add]
    exact Nat.le_trans (Nat.pow_le_pow_right (by omega) (show m.log2 + 1 + a ≤ 53 by omega)) (by decide)
  · have e1 : a - (a + m.log2 - 52) = 52 - m.log2 := by omega
    rw [e1]
    have lo2 : 4503599627370496 ≤ m * 2 ^ (52 - m.log2) := by
      refine Nat.le_trans ?_ (Nat.mul_le_mul_right _ lo)
      rw [← Nat.pow_add, Nat.add_sub_cancel' hL]
      decide
    have hi2 : m * 2 ^ (52 - m.log2) < 9007199254740992 := by
      refine Nat.lt_of_lt_of_le (Nat.mul_lt_mul_of_pos_right hi (Nat.pow_pos (by omega))) ?_
      rw [← Nat.pow_add, show m.log2 + 1 + (52 - m.log2) = 53 by omega]
      decide
    have := vl_of (a + m.log2 - 52 + 1) (m * 2 ^ (52 - m.log2) - 4503599627370496) (by omega) (by omega)
    rw [show (a + m.log2 - 52 + 1) * 4503599627370496 + (m * 2 ^ (52 - m.log2) - 4503599627370496) = (a + m.log2 - 52) * 4503599627370496 + m * 2 ^ (52 - m.log2) by omega] at this
    rw [this, show 4503599627370496 + (m * 2 ^ (52 - m.log2) - 4503599627370496) = m * 2 ^ (52 - m.log2) by omega, show a + m.log2 - 52 + 1 - 1 = a + m.log2 - 52 by omega, Nat.mul_assoc, ← Nat.pow_add]
    congr 2; omega
/-- to the nearest word of what is a word -/
theorem nearest_vl (s : Bool) (m j a : Nat) (p : Int) (hm : m ≠ 0) (h53 : m < 9007199254740992) (hp : p + j + 1074 = a) (hmax : a ≤ 2045) :
    ∃ r, double.nearest s (m * 2 ^ j) p = double.word s r ∧ vl r = m * pw a ∧ r < 9218868437227405312 := by
  have hv : vl (rung m a) = m * pw a := vl_rung m a hm h53
  have hL := log2_le m hm h53
  have hr : rung m a < 9218868437227405312 := by
    have hi := log2_hi m hm
    have h2 : m * 2 ^ (a - (a + m.log2 - 52)) < 9007199254740992 := by
      refine Nat.lt_of_lt_of_le (Nat.mul_lt_mul_of_pos_right hi (Nat.pow_pos (by omega))) ?_
      rw [← Nat.pow_add]
      exact Nat.le_trans (Nat.pow_le_pow_right (by omega) (show _ ≤ 53 by omega)) (by decide)
    unfold rung
    generalize m * 2 ^ (a - (a + m.log2 - 52)) = z at h2 ⊢
    omega
  refine ⟨rung m a, ?_, hv, hr⟩
  rw [nearest_at s m j p hm h53 (by omega)]
  congr 1
  unfold rung at hr ⊢
  rw [show (max (p + (j : Int) + (m.log2 : Int) - 52) (-1074) + 1074).toNat = a + m.log2 - 52 by omega, show (p + (j : Int) - max (p + (j : Int) + (m.log2 : Int) - 52) (-1074)).toNat = a - (a + m.log2 - 52) by omega]
  omega
theorem nearest_zero (s : Bool) (p : Int) : double.nearest s 0 p = double.word s 0 := by
  unfold Format.nearest; rw [if_pos rfl]
theorem mg_lt (r : Nat) : mg r < 9007199254740992 := by unfold mg; split <;> omega
theorem mg_zero {r : Nat} (h : mg r = 0) : r = 0 := by unfold mg at h; split at h <;> omega
/-- 2 ^ k as a word -/
theorem read_pow (k : Nat) (hk : k < 1000) : double.read ((1023 + k) * 4503599627370496) = .number false 4503599627370496 ((k : Int) - 52) := by
  have h : rg ((1023 + k) * 4503599627370496) = (1023 + k) * 4503599627370496 := by unfold rg; omega
  rw [read_fin (by rw [h]; omega), h]
  have e1 : ng ((1023 + k) * 4503599627370496) = false := by
    unfold ng; rw [show (1023 + k) * 4503599627370496 / 9223372036854775808 = 0 by omega]; rfl
  have e2 : mg ((1023 + k) * 4503599627370496) = 4503599627370496 := by
    unfold mg; rw [if_neg (by omega)]; omega
  have e3 : sh ((1023 + k) * 4503599627370496) = 1022 + k := by unfold sh; omega
  rw [e1, e2, e3]
  congr 1; omega
/-- times 2 ^ k -/
theorem mul_up {x : Nat} (k : Nat) (hk : k < 1000) (hx : rg x < 9218868437227405312) (hmax : sh (rg x) + k ≤ 2045) :
    ∃ r, double.mul x ((1023 + k) * 4503599627370496) = some (double.word (ng x) r) ∧ vl r = vl (rg x) * 2 ^ k ∧ r < 9218868437227405312 := by
  unfold Format.mul
  rw [read_fin hx, read_pow k hk]
  simp only [Datum.product, Option.map_some, Format.write, Bool.xor_false]
  by_cases h0 : mg (rg x) = 0
  · refine ⟨0, ?_, ?_, by omega⟩
    · rw [h0, Nat.zero_mul, nearest_zero]
    · unfold vl; rw [h0, Nat.zero_mul, Nat.zero_mul]; decide
  · obtain ⟨r, h1, h2, h3⟩ := nearest_vl (ng x) (mg (rg x)) 52 (sh (rg x) + k) (-1074 + ((sh (rg x) : Nat) : Int) + ((k : Int) - 52)) h0 (mg_lt _) (by omega) hmax
    refine ⟨r, ?_, ?_, h3⟩
    · rw [← h1]
    · rw [h2, pw_add, ← Nat.mul_assoc]; rfl
/-- 2 ^ k times -/
theorem up_mul {x : Nat} (k : Nat) (hk : k < 1000) (hx : rg x < 9218868437227405312) (hmax : sh (rg x) + k ≤ 2045) :
    ∃ r, double.mul ((1023 + k) * 4503599627370496) x = some (double.word (ng x) r) ∧ vl r = vl (rg x) * 2 ^ k ∧ r < 9218868437227405312 := by
  obtain ⟨r, h1, h2, h3⟩ := mul_up k hk hx hmax
  refine ⟨r, ?_, h2, h3⟩
  rw [← h1]
  unfold Format.mul
  rw [read_fin hx, read_pow k hk]
  simp only [Datum.product, Bool.xor_false, Bool.false_xor, Nat.mul_comm, Int.add_comm]
/-- a whole number as a float -/
theorem float_of {n : Nat} (h : n < 9007199254740992) : ∃ r, double.nearest false n 0 = r ∧ rg r = r ∧ ng r = false ∧ vl r = n * pw 1074 ∧ r < 9218868437227405312 := by
  by_cases h0 : n = 0
  · subst h0
    refine ⟨0, ?_, rfl, by decide, ?_, by omega⟩
    · rw [nearest_zero]; rfl
    · rw [Nat.zero_mul]; decide
  · obtain ⟨r, h1, h2, h3⟩ := nearest_vl false n 0 1074 0 h0 h (by omega) (by omega)
    rw [Nat.pow_zero, Nat.mul_one] at h1
    have e : double.word false r = r := by unfold Format.word; rfl
    rw [e] at h1
    refine ⟨r, h1, by unfold rg; omega, ?_, h2, h3⟩
    unfold ng; rw [show r / 9223372036854775808 = 0 by omega]; rfl
end Go.Proofs.Ytclfambjkolckaa.Fl
-- part: FBits
namespace Go.Proofs.Ytclfambjkolckaa.Fl
open Go Go.RowKit
set_option linter.unusedVariables false
set_option linter.unusedSimpArgs false
theorem uw (x : Int) (h : 0 ≤ x ∧ x < 18446744073709551616) : IntKind.u64.wrap x = x := by
  simp [IntKind.wrap, IntKind.bits, IntKind.signed]; omega
theorem iw (x : Int) (h : -9223372036854775808 ≤ x ∧ x < 9223372036854775808) : IntKind.i64.wrap x = x := by
  simp [IntKind.wrap, IntKind.bits, IntKind.signed]; omega
theorem ofNat64 (x : Nat) (h : x < 18446744073709551616) : (BitVec.ofInt 64 (x : Int)).toNat = x := by
  rw [BitVec.ofInt_natCast, BitVec.toNat_ofNat]; omega
theorem abs_bits {x : Nat} (h : x < 18446744073709551616) : (bits .andNot .u64 (x : Int) 9223372036854775808).toNat = rg x := by
  unfold bits
  show (IntKind.u64.wrap ((BitVec.ofInt 64 (x : Int) &&& ~~~ BitVec.ofInt 64 9223372036854775808).toNat : Int)).toNat = rg x
  have e : (BitVec.ofInt 64 (x : Int) &&& ~~~ BitVec.ofInt 64 9223372036854775808).toNat = x % 2 ^ 63 := by
    rw [BitVec.toNat_and, ofNat64 x h, show (~~~ BitVec.ofInt 64 9223372036854775808).toNat = 2 ^ 63 - 1 from by decide, Nat.and_two_pow_sub_one_eq_mod]
  rw [e, uw _ (by omega)]
  unfold rg
  omega
theorem exp_bits {y : Nat} (h : y < 18446744073709551616) : bits BinOp.and IntKind.i64 (wrap64 ((y : Int) / 4503599627370496)) 2047 = ((y / 4503599627370496 % 2048 : Nat) : Int) := by
  have e0 : wrap64 ((y : Int) / 4503599627370496) = ((y / 4503599627370496 : Nat) : Int) := by unfold wrap64; omega
  rw [e0]
  unfold bits
  show IntKind.i64.wrap ((BitVec.ofInt 64 ((y / 4503599627370496 : Nat) : Int) &&& BitVec.ofInt 64 2047).toNat : Int) = _
  have e : (BitVec.ofInt 64 ((y / 4503599627370496 : Nat) : Int) &&& BitVec.ofInt 64 2047).toNat = (y / 4503599627370496) % 2 ^ 11 := by
    rw [BitVec.toNat_and, ofNat64 _ (by omega), show (BitVec.ofInt 64 2047).toNat = 2 ^ 11 - 1 from by decide, Nat.and_two_pow_sub_one_eq_mod]
  rw [e, iw _ (by omega)]
theorem and_mask {y : Nat} (h : y < 9223372036854775808) : y &&& 9227875636482146303 = y % 4503599627370496 := by
  have e : (9227875636482146303 : Nat) = 2 ^ 63 + (2 ^ 52 - 1) := by decide
  have e2 : (4503599627370496 : Nat) = 2 ^ 52 := by decide
  rw [e, e2, ← Nat.and_two_pow_sub_one_eq_mod]
  apply Nat.eq_of_testBit_eq
  intro i
  rw [Nat.testBit_and, Nat.testBit_and]
  by_cases hi : i < 63
  · rw [Nat.testBit_two_pow_add_gt hi]
  · have : y.testBit i = false := Nat.testBit_lt_two_pow (Nat.lt_of_lt_of_le h (Nat.le_trans (by decide) (Nat.pow_le_pow_right (by omega) (show 63 ≤ i by omega))))
    rw [this]; rfl
theorem put_bits {y : Nat} (h : y < 9223372036854775808) (e : Nat) (he : e < 2048) {z : Int} (hz : z = (e : Int) * 4503599627370496) :
    bits BinOp.or IntKind.u64 (bits BinOp.andNot IntKind.u64 (y : Int) 9218868437227405312) z = ((e * 4503599627370496 + y % 4503599627370496 : Nat) : Int) := by
  have e1 : bits BinOp.andNot IntKind.u64 (y : Int) 9218868437227405312 = ((y % 4503599627370496 : Nat) : Int) := by
    unfold bits
    show IntKind.u64.wrap ((BitVec.ofInt 64 (y : Int) &&& ~~~ BitVec.ofInt 64 9218868437227405312).toNat : Int) = _
    rw [BitVec.toNat_and, ofNat64 _ (by omega), show (~~~ BitVec.ofInt 64 9218868437227405312).toNat = 9227875636482146303 from by decide, and_mask h, uw _ (by omega)]
  have e2 : z = ((e * 4503599627370496 : Nat) : Int) := by rw [hz]; omega
  rw [e1, e2]
  unfold bits
  show IntKind.u64.wrap ((BitVec.ofInt 64 ((y % 4503599627370496 : Nat) : Int) ||| BitVec.ofInt 64 ((e * 4503599627370496 : Nat) : Int)).toNat : Int) = _
  rw [BitVec.toNat_or, ofNat64 _ (by omega), ofNat64 _ (by omega)]
  have e3 : y % 4503599627370496 ||| e * 4503599627370496 = e * 4503599627370496 + y % 4503599627370496 := by
    have := Nat.shiftLeft_add_eq_or_of_lt (i := 52) (b := y % 4503599627370496) (by omega) e
    rw [Nat.or_comm, show e * 4503599627370496 = e <<< 52 by rw [Nat.shiftLeft_eq], ← this]
  rw [e3, uw _ (by omega)]
theorem sign_bit {x : Nat} (h : x < 18446744073709551616) : decide (wrap64 (x : Int) < 0) = ng x := by
  unfold ng wrap64
  by_cases h1 : x < 9223372036854775808
  · rw [show x / 9223372036854775808 = 0 by omega]; simp; omega
  · rw [show x / 9223372036854775808 = 1 by omega]; simp; omega
theorem flip_bits {x : Nat} (h : x < 18446744073709551616) : x ^^^ 9223372036854775808 = Ieee.double.word (!ng x) (rg x) := by
  have h2 : (9223372036854775808 : Nat) = 2 ^ 63 := by decide
  have main : ∀ z, z < 2 ^ 63 → z ^^^ 2 ^ 63 = 2 ^ 63 + z := fun z hz => by
    have e5 := Nat.two_pow_add_eq_or_of_lt hz 1
    rw [Nat.mul_one] at e5
    rw [e5]
    apply Nat.eq_of_testBit_eq
    intro i
    rw [Nat.testBit_xor, Nat.testBit_or, Nat.testBit_two_pow]
    by_cases hi : 63 = i
    · subst hi; rw [Nat.testBit_lt_two_pow hz]; rfl
    · simp [hi]
  unfold Ieee.Format.word
  rw [sign_]
  by_cases h1 : x < 9223372036854775808
  · have e1 : ng x = false := by unfold ng; rw [show x / 9223372036854775808 = 0 by omega]; rfl
    have e2 : rg x = x := by unfold rg; omega
    rw [e1, e2, h2, main x (by omega)]; rfl
  · obtain ⟨z, rfl⟩ : ∃ z, x = 2 ^ 63 + z := ⟨x - 2 ^ 63, by omega⟩
    have hz : z < 2 ^ 63 := by omega
    have e1 : ng (2 ^ 63 + z) = true := by unfold ng; rw [show (2 ^ 63 + z) / 9223372036854775808 = 1 by omega]; rfl
    have e2 : rg (2 ^ 63 + z) = z := by unfold rg; omega
    rw [e1, e2, h2, ← main z hz, Nat.xor_assoc, Nat.xor_self, Nat.xor_zero]; rfl
end Go.Proofs.Ytclfambjkolckaa.Fl
-- part: ShareM
namespace Go.Proofs.Ytclfambjkolckaa.ShareM
open Go Go.RowKit Go.Proofs.Ytclfambjkolckaa.Fl
set_option linter.unusedVariables false
set_option linter.unusedSimpArgs false
set_option maxRecDepth 20000
theorem f64bits (x : Nat) (w : World) : Sem.run Try.prog (callFunc 136 #[.float .f64 x]) w = .ok (.value (.int .u64 x)) w := by kernel_rfl
theorem f64from (n : Int) (w : World) : Sem.run Try.prog (callFunc 75 #[.int .u64 n]) w = .ok (.value (.float .f64 n.toNat)) w := by kernel_rfl
theorem isNaN_calls (x : Nat) (w : World) : Calls Try.prog 133 #[.float .f64 x] w fun e w' => e = .returned (.bool (FloatKind.f64.format.order x x != some Ordering.eq)) ∧ w = w' := by
  go_enter Try.func133, Try.ntmps133
  go_wp2
  go_ret
  exact ⟨rfl, rfl⟩
theorem signbit_calls (x : Nat) (w : World) : Calls Try.prog 135 #[.float .f64 x] w fun e w' => e = .returned (.bool (decide (wrap64 (x : Int) < 0))) ∧ w = w' := by
  have h := f64bits
  go_enter Try.func135, Try.ntmps135
  go_wp2
  go_ret
  exact ⟨rfl, rfl⟩
theorem abs_calls (x : Nat) (w : World) : Calls Try.prog 165 #[.float .f64 x] w fun e w' => e = .returned (.float .f64 (bits .andNot .u64 (x : Int) 9223372036854775808).toNat) ∧ w = w' := by
  have h := f64bits; have h2 := f64from
  go_enter Try.func165, Try.ntmps165
  go_wp2
  go_ret
  exact ⟨rfl, rfl⟩
theorem isInf1_calls (x : Nat) (w : World) : Calls Try.prog 134 #[.float .f64 x, .int .i64 1] w fun e w' => e = .returned (.bool (FloatKind.f64.format.order x 9218868437227405311 == some Ordering.gt)) ∧ w = w' := by
  go_enter Try.func134, Try.ntmps134
  go_wp2
  go_ret
  exact ⟨rfl, rfl⟩
theorem neg_run (x : Nat) (w : World) : Sem.run Try.prog (Go.Op.unary UnOp.neg (Value.float FloatKind.f64 x)) w = .ok (.float .f64 (x ^^^ 9223372036854775808)) w := by kernel_rfl
theorem isInfN_calls (x : Nat) (w : World) : Calls Try.prog 134 #[.float .f64 x, .int .i64 (-1)] w fun e w' => e = .returned (.bool (FloatKind.f64.format.order (x ^^^ 9223372036854775808) 9218868437227405311 == some Ordering.gt)) ∧ w = w' := by
  have h := neg_run
  go_enter Try.func134, Try.ntmps134
  go_wp2
  go_ret
  exact ⟨rfl, rfl⟩
theorem isInf0_calls (x : Nat) (w : World) : Calls Try.prog 134 #[.float .f64 x, .int .i64 0] w fun e w' => e = .returned (.bool (FloatKind.f64.format.order (bits .andNot .u64 (x : Int) 9223372036854775808).toNat 9218868437227405311 == some Ordering.gt)) ∧ w = w' := by
  go_enter Try.func134, Try.ntmps134
  go_wp2_with (go_at_call 165; refine (abs_calls _ _).mono ?_; rintro e w' ⟨rfl, rfl⟩)
  go_ret
  exact ⟨rfl, rfl⟩
/-- what kind a float is, as the program asks -/
def kv (x : Nat) : Int :=
  if (FloatKind.f64.format.order x x != some Ordering.eq) = true then 0
  else if (FloatKind.f64.format.order (x ^^^ 9223372036854775808) 9218868437227405311 == some Ordering.gt) = true then 1
  else if (FloatKind.f64.format.order x 9218868437227405311 == some Ordering.gt) = true then 6
  else if (FloatKind.f64.format.order x 0 == some Ordering.lt) = true then 2
  else if (FloatKind.f64.format.order x 0 == some Ordering.gt) = true then 5
  else if decide (wrap64 (x : Int) < 0) = true then 3 else 4
set_option maxHeartbeats 1000000 in
theorem kind_calls (x : Nat) (w : World) : Calls Try.prog 78 #[.float .f64 x] w fun e w' => e = .returned (.int .i64 (kv x)) ∧ w = w' := by
  have main : ∀ b0 b1 b2 b3 b4 b5 : Bool, (FloatKind.f64.format.order x x != some Ordering.eq) = b0 → (FloatKind.f64.format.order (x ^^^ 9223372036854775808) 9218868437227405311 == some Ordering.gt) = b1 → (FloatKind.f64.format.order x 9218868437227405311 == some Ordering.gt) = b2 → (FloatKind.f64.format.order x 0 == some Ordering.lt) = b3 → (FloatKind.f64.format.order x 0 == some Ordering.gt) = b4 → decide (wrap64 (x : Int) < 0) = b5 →
      Calls Try.prog 78 #[.float .f64 x] w fun e w' => e = .returned (.int .i64 (if b0 then 0 else if b1 then 1 else if b2 then 6 else if b3 then 2 else if b4 then 5 else if b5 then 3 else 4)) ∧ w = w' := by
    intro b0 b1 b2 b3 b4 b5 h0 h1 h2 h3 h4 h5
    have H0 := Lib.hid h0; have H1 := Lib.hid h1; have H2 := Lib.hid h2; have H5 := Lib.hid h5; clear h0 h1 h2 h5
    cases b0 <;> cases b1 <;> cases b2 <;> cases b3 <;> cases b4 <;> cases b5 <;>
    (go_enter Try.func78, Try.ntmps78
     go_wp2_with (first | (go_at_call 133; refine (isNaN_calls _ _).mono ?_; rintro e w' ⟨rfl, rfl⟩; rw [H0.out]) | (go_at_call 135; refine (signbit_calls _ _).mono ?_; rintro e w' ⟨rfl, rfl⟩; rw [H5.out]) | ((with_reducible refine (isInfN_calls _ _).mono ?_); rintro e w' ⟨rfl, rfl⟩; rw [H1.out]) | ((with_reducible refine (isInf1_calls _ _).mono ?_); rintro e w' ⟨rfl, rfl⟩; rw [H2.out]))
     go_ret
     exact ⟨rfl, rfl⟩)
  exact main _ _ _ _ _ _ rfl rfl rfl rfl rfl rfl
end Go.Proofs.Ytclfambjkolckaa.ShareM
-- part: ShareL
namespace Go.Proofs.Ytclfambjkolckaa.ShareM
open Go Go.RowKit Go.Proofs.Ytclfambjkolckaa.Fl
set_option linter.unusedVariables false
set_option linter.unusedSimpArgs false
set_option maxRecDepth 20000
abbrev fo (x y : Nat) : Option Ordering := FloatKind.f64.format.order x y
abbrev absw (x : Nat) : Nat := (bits .andNot .u64 (x : Int) 9223372036854775808).toNat
theorem normalize_big (x : Nat) (w : World) (h : (FloatKind.f64.format.order (absw x) 4503599627370496 == some Ordering.lt) = false) : Calls Try.prog 170 #[.float .f64 x] w fun e w' => e = .returned (.tuple #[.float .f64 x, .int .i64 0]) ∧ w = w' := by
  go_enter Try.func170, Try.ntmps170
  go_wp2_with (go_at_call 165; refine (abs_calls _ _).mono ?_; rintro e w' ⟨rfl, rfl⟩)
  go_ret2
  exact ⟨rfl, rfl⟩
theorem normalize_small (x y : Nat) (w : World) (h : (FloatKind.f64.format.order (absw x) 4503599627370496 == some Ordering.lt) = true) (hy : FloatKind.f64.format.mul x 4841369599423283200 = some y) : Calls Try.prog 170 #[.float .f64 x] w fun e w' => e = .returned (.tuple #[.float .f64 y, .int .i64 (-52)]) ∧ w = w' := by
  have hr := fun w => run_float_arith (P := Try.prog) w .mul 79 .f64 x 4841369599423283200 y hy
  clear hy
  go_enter Try.func170, Try.ntmps170
  go_wp2_with (go_at_call 165; refine (abs_calls _ _).mono ?_; rintro e w' ⟨rfl, rfl⟩)
  go_ret2
  exact ⟨rfl, rfl⟩
theorem ldexp_zero (x : Nat) (k : Int) (w : World) (h : (FloatKind.f64.format.order x 0 == some Ordering.eq) = true) : Calls Try.prog 164 #[.float .f64 x, .int .i64 k] w fun e w' => e = .returned (.float .f64 x) ∧ w = w' := by
  go_enter Try.func164, Try.ntmps164
  go_wp2
  go_ret
  exact ⟨rfl, rfl⟩
set_option maxHeartbeats 1000000 in
theorem ldexp_norm (x y X r : Nat) (k e E : Int) (w : World) (h0 : (FloatKind.f64.format.order x 0 == some Ordering.eq) = false) (hn : ∀ w, Calls Try.prog 170 #[.float .f64 x] w fun e' w' => e' = .returned (.tuple #[.float .f64 y, .int .i64 e]) ∧ w = w')
    (h1 : (FloatKind.f64.format.order x x != some Ordering.eq) = false) (h2 : (FloatKind.f64.format.order (absw x) 9218868437227405311 == some Ordering.gt) = false)
    (hE : bits BinOp.and IntKind.i64 (wrap64 (↑y / 4503599627370496)) 2047 = E) (E0 : 0 ≤ E) (E1 : E ≤ 2047) (k0 : -100 ≤ k) (k1 : k ≤ 100) (e0 : -100 ≤ e) (e1 : e ≤ 100) (t1 : -1022 ≤ k + e + (E - 1023)) (t2 : k + e + (E - 1023) ≤ 1023)
    (hX : bits BinOp.or IntKind.u64 (bits BinOp.andNot IntKind.u64 (↑y) 9218868437227405312) ((k + e + (E - 1023) + 1023) * 4503599627370496) = (X : Int)) (hr : FloatKind.f64.format.mul 4607182418800017408 X = some r) :
    Calls Try.prog 164 #[.float .f64 x, .int .i64 k] w fun e w' => e = .returned (.float .f64 r) ∧ w = w' := by
  have h := f64bits; have h3 := f64from
  have hr' := fun w => run_float_arith (P := Try.prog) w .mul 79 .f64 4607182418800017408 X r hr
  have HN := Lib.hid hn; clear hn hr
  go_enter Try.func164, Try.ntmps164
  go_wp2_with (first | (go_at_call 133; refine (isNaN_calls _ _).mono ?_; rintro e w' ⟨rfl, rfl⟩) | (go_at_call 134; refine (isInf0_calls _ _).mono ?_; rintro e w' ⟨rfl, rfl⟩) | (go_at_call 170; refine (HN.out _).mono ?_; rintro e w' ⟨rfl, rfl⟩))
  go_ret
  exact ⟨rfl, rfl⟩
set_option maxHeartbeats 1000000 in
theorem ldexp_den (x y X r : Nat) (k e E : Int) (w : World) (h0 : (FloatKind.f64.format.order x 0 == some Ordering.eq) = false) (hn : ∀ w, Calls Try.prog 170 #[.float .f64 x] w fun e' w' => e' = .returned (.tuple #[.float .f64 y, .int .i64 e]) ∧ w = w')
    (h1 : (FloatKind.f64.format.order x x != some Ordering.eq) = false) (h2 : (FloatKind.f64.format.order (absw x) 9218868437227405311 == some Ordering.gt) = false)
    (hE : bits BinOp.and IntKind.i64 (wrap64 (↑y / 4503599627370496)) 2047 = E) (E0 : 0 ≤ E) (E1 : E ≤ 2047) (k0 : -100 ≤ k) (k1 : k ≤ 100) (e0 : -100 ≤ e) (e1 : e ≤ 100) (t1 : -1075 ≤ k + e + (E - 1023)) (t2 : k + e + (E - 1023) < -1022)
    (hX : bits BinOp.or IntKind.u64 (bits BinOp.andNot IntKind.u64 (↑y) 9218868437227405312) ((k + e + (E - 1023) + 53 + 1023) * 4503599627370496) = (X : Int)) (hr : FloatKind.f64.format.mul 4368491638549381120 X = some r) :
    Calls Try.prog 164 #[.float .f64 x, .int .i64 k] w fun e w' => e = .returned (.float .f64 r) ∧ w = w' := by
  have h := f64bits; have h3 := f64from
  have hr' := fun w => run_float_arith (P := Try.prog) w .mul 79 .f64 4368491638549381120 X r hr
  have HN := Lib.hid hn; clear hn hr
  go_enter Try.func164, Try.ntmps164
  go_wp2_with (first | (go_at_call 133; refine (isNaN_calls _ _).mono ?_; rintro e w' ⟨rfl, rfl⟩) | (go_at_call 134; refine (isInf0_calls _ _).mono ?_; rintro e w' ⟨rfl, rfl⟩) | (go_at_call 170; refine (HN.out _).mono ?_; rintro e w' ⟨rfl, rfl⟩))
  go_ret
  exact ⟨rfl, rfl⟩
theorem ldexp_top (x y : Nat) (k : Int) (w : World) (h : Calls Try.prog 164 #[.float .f64 x, .int .i64 k] w fun e w' => e = .returned (.float .f64 y) ∧ w = w') : Calls Try.prog 132 #[.float .f64 x, .int .i64 k] w fun e w' => e = .returned (.float .f64 y) ∧ w = w' := by
  have H := Lib.hid h; clear h
  go_enter Try.func132, Try.ntmps132
  go_wp2_with (go_at_call 164; refine H.out.mono ?_; rintro e w' ⟨rfl, rfl⟩)
  go_ret
  exact ⟨rfl, rfl⟩
end Go.Proofs.Ytclfambjkolckaa.ShareM
-- part: ShareV
namespace Go.Proofs.Ytclfambjkolckaa.Fl
open Go Go.RowKit
set_option linter.unusedVariables false
set_option linter.unusedSimpArgs false
abbrev FO (x y : Nat) : Option Ordering := FloatKind.f64.format.order x y
theorem fo_sv {x y : Nat} (hx : rg x ≤ 9218868437227405312) (hy : rg y ≤ 9218868437227405312) : FloatKind.f64.format.order x y = some (compare (sv x) (sv y)) := order_sv hx hy
theorem fo_nan {x y : Nat} (h : 9218868437227405312 < rg x ∨ 9218868437227405312 < rg y) : FloatKind.f64.format.order x y = none := order_nan h
theorem sv_zero : sv 0 = 0 := by decide
theorem vl_zero : vl 0 = 0 := by decide
theorem vl_pos {r : Nat} (h : r ≠ 0) : 0 < vl r := by have := vl_lt (show 0 < r by omega); rw [vl_zero] at this; exact this
/-- 1, as a word; its size -/
theorem sv_one : sv 4607182418800017408 = (pw 1074 : Nat) := by
  have e1 : ng 4607182418800017408 = false := by decide
  have e2 : rg 4607182418800017408 = 1023 * 4503599627370496 + 0 := by decide
  unfold sv
  rw [e1, e2, vl_at 1023 0 (by omega) (by omega), if_neg (by decide), Nat.add_zero, ← pw_52, ← pw_add]
theorem sv_half : sv 4602678819172646912 = (pw 1073 : Nat) := by
  have e1 : ng 4602678819172646912 = false := by decide
  have e2 : rg 4602678819172646912 = 1022 * 4503599627370496 + 0 := by decide
  unfold sv
  rw [e1, e2, vl_at 1022 0 (by omega) (by omega), if_neg (by decide), Nat.add_zero, ← pw_52, ← pw_add]
theorem rg_one : rg 4607182418800017408 = 4607182418800017408 := by decide
/-! ### what kind a float is -/
def cl (x : Nat) : Int :=
  if 9218868437227405312 < rg x then 0
  else if rg x = 9218868437227405312 then (if ng x then 1 else 6)
  else if rg x = 0 then (if ng x then 3 else 4)
  else (if ng x then 2 else 5)
theorem sv_inj {x y : Nat} (hx : x < 18446744073709551616) (hy : y < 18446744073709551616) (h : sv x = sv y) (hn : ng x = ng y) : x = y := by
  have : rg x = rg y := by
    unfold sv at h; rw [hn] at h
    cases hb : ng y <;> rw [hb] at h <;> simp at h <;> exact vl_inj (by omega)
  rw [← of_word hx, ← of_word hy, hn, this]
theorem sv_neg {x : Nat} (h : ng x = true) (h0 : rg x ≠ 0) : sv x < 0 := by
  have := vl_pos h0; unfold sv; rw [h]; simp only [if_true]; omega
theorem sv_pos {x : Nat} (h : ng x = false) (h0 : rg x ≠ 0) : 0 < sv x := by
  have := vl_pos h0; unfold sv; rw [h]; simp; omega
theorem sv_nul {x : Nat} (h : rg x = 0) : sv x = 0 := by
  unfold sv; rw [h, vl_zero]; cases ng x <;> simp
theorem sv_of {x r : Nat} (h : ng x = false) (hr : rg x = r) : sv x = (vl r : Nat) := by unfold sv; rw [h, hr, if_neg (by decide)]
theorem max_sv : sv 9218868437227405311 = (vl 9218868437227405311 : Nat) := sv_of (by decide) (by decide)
theorem vl_le {r s : Nat} (h : r ≤ s) : vl r ≤ vl s := by
  rcases Nat.lt_or_eq_of_le h with h2 | h2
  · exact Nat.le_of_lt (vl_lt h2)
  · rw [h2]; exact Nat.le_refl _
theorem far_M {x M : Nat} (h : rg x ≤ 9218868437227405312) (h1 : ∀ r, r ≤ 9218868437227405311 → vl r ≤ M) (h2 : M < vl 9218868437227405312) :
    (some (compare (sv x) (M : Int)) == some Ordering.gt) = (!ng x && decide (rg x = 9218868437227405312)) := by
  unfold sv
  cases hb : ng x
  · simp only [Bool.false_eq_true, if_false, Bool.not_false, Bool.true_and]
    rcases Nat.lt_or_eq_of_le h with h3 | h3
    · have := h1 (rg x) (by omega)
      rw [decide_eq_false (by omega)]
      have : compare ((vl (rg x) : Nat) : Int) (M : Int) ≠ .gt := fun hc => by
        have := Int.compare_eq_gt.1 hc; omega
      simpa using this
    · rw [h3] at *
      rw [Int.compare_eq_gt.2 (by omega)]; rfl
  · simp only [if_true, Bool.not_true, Bool.false_and]
    rw [Int.compare_eq_lt.2 ?_]
    · rfl
    · by_cases h0 : rg x = 0
      · have h4 := h1 1 (by omega)
        have h5 := vl_pos (show (1 : Nat) ≠ 0 by omega)
        omega
      · have h5 := vl_pos h0
        omega
/-- is it above the greatest number? -/
theorem far_iff {x : Nat} (h : rg x ≤ 9218868437227405312) : (FloatKind.f64.format.order x 9218868437227405311 == some Ordering.gt) = (!ng x && decide (rg x = 9218868437227405312)) := by
  rw [fo_sv h (by decide), max_sv]
  exact far_M h (fun r hr => vl_le hr) (vl_lt (by omega))
theorem cmp_eq (a : Int) : compare a a = Ordering.eq := Int.compare_eq_eq.2 rfl
/-- the tests on a float of each kind -/
theorem t_nan {x : Nat} (h : 9218868437227405312 < rg x) : (FloatKind.f64.format.order x x != some Ordering.eq) = true := by rw [fo_nan (.inl h)]; rfl
theorem t_num {x : Nat} (h : rg x ≤ 9218868437227405312) : (FloatKind.f64.format.order x x != some Ordering.eq) = false := by rw [fo_sv h h, cmp_eq]; rfl
theorem o_neg {x : Nat} (h : rg x ≤ 9218868437227405312) (hn : ng x = true) (h0 : rg x ≠ 0) : FloatKind.f64.format.order x 0 = some .lt := by
  rw [fo_sv h (by decide), sv_zero, Int.compare_eq_lt.2 (sv_neg hn h0)]
theorem o_pos {x : Nat} (h : rg x ≤ 9218868437227405312) (hn : ng x = false) (h0 : rg x ≠ 0) : FloatKind.f64.format.order x 0 = some .gt := by
  rw [fo_sv h (by decide), sv_zero, Int.compare_eq_gt.2 (sv_pos hn h0)]
theorem o_nul {x : Nat} (h0 : rg x = 0) : FloatKind.f64.format.order x 0 = some .eq := by
  rw [fo_sv (by omega) (by decide), sv_zero, sv_nul h0, cmp_eq]
theorem rg_lt (x : Nat) : rg x < 9223372036854775808 := by unfold rg; omega
end Go.Proofs.Ytclfambjkolckaa.Fl
-- part: ShareV2
namespace Go.Proofs.Ytclfambjkolckaa.Fl
open Go Go.RowKit Ieee
open Go.Proofs.Ytclfambjkolckaa.ShareM (kv)
set_option linter.unusedVariables false
set_option linter.unusedSimpArgs false
theorem kv_cl {x : Nat} (h : x < 18446744073709551616) : kv x = cl x := by
  unfold kv cl
  by_cases h0 : 9218868437227405312 < rg x
  · rw [if_pos (t_nan h0), if_pos h0]
  · have hx : rg x ≤ 9218868437227405312 := by omega
    rw [if_neg (by rw [t_num hx]; decide), if_neg h0]
    have e1 : (FloatKind.f64.format.order (x ^^^ 9223372036854775808) 9218868437227405311 == some Ordering.gt) = (ng x && decide (rg x = 9218868437227405312)) := by
      rw [flip_bits h, far_iff (by rw [word_rg _ (rg_lt x)]; exact hx), word_ng _ (rg_lt x), word_rg _ (rg_lt x), Bool.not_not]
    rw [e1, far_iff hx, sign_bit h]
    by_cases h1 : rg x = 9218868437227405312
    · rw [decide_eq_true h1, if_pos h1]
      cases ng x <;> simp
    · rw [decide_eq_false h1, if_neg h1]
      by_cases h2 : rg x = 0
      · rw [o_nul h2, if_pos h2]
        cases ng x <;> simp
      · rw [if_neg h2]
        cases hn : ng x
        · rw [o_pos hx hn h2]; simp
        · rw [o_neg hx hn h2]; simp
/-- a number made a float, as the walk spells it -/
theorem fnear (m : Nat) : FloatKind.f64.nearest (m : Int) = double.nearest false m 0 := by
  unfold FloatKind.nearest FloatKind.encode
  show double.write (.number (decide ((m : Int) < 0)) (m : Int).natAbs 0) = _
  rw [decide_eq_false (by omega)]
  rfl
def K1 : Nat := pw 1074
theorem K1_pos : 0 < K1 := pw_pos 1074
theorem fl_sv {m : Nat} (h : m < 9007199254740992) : ∃ r, FloatKind.f64.nearest (m : Int) = r ∧ rg r = r ∧ ng r = false ∧ vl r = m * K1 ∧ r < 9218868437227405312 := by
  rw [fnear]; exact float_of h
/-- a comparison with a number made a float -/
theorem leq_iff {y : Nat} (hy : rg y ≤ 9218868437227405312) {N : Nat} (hN : sv y = N) {m : Nat} (hm : m < 9007199254740992) :
    (FloatKind.f64.format.order (FloatKind.f64.nearest (m : Int)) y == some Ordering.lt || FloatKind.f64.format.order (FloatKind.f64.nearest (m : Int)) y == some Ordering.eq) = decide (m * K1 ≤ N) := by
  obtain ⟨r, h1, h2, h3, h4, h5⟩ := fl_sv hm
  rw [h1, fo_sv (by omega) hy, sv_of h3 h2, h4, hN]
  rcases Nat.lt_trichotomy (m * K1) N with h | h | h
  · rw [Int.compare_eq_lt.2 (by omega), decide_eq_true (by omega)]; rfl
  · rw [h, cmp_eq, decide_eq_true (by omega)]; rfl
  · rw [Int.compare_eq_gt.2 (by omega), decide_eq_false (by omega)]; rfl
/-- between 0 and 1 (or a nought below) -/
def In01 (x : Nat) : Prop := rg x ≤ 4607182418800017408 ∧ (ng x = false ∨ rg x = 0)
theorem in_sv {x : Nat} (h : In01 x) : sv x = (vl (rg x) : Nat) := by
  rcases h.2 with h2 | h2
  · exact sv_of h2 rfl
  · rw [sv_nul h2, h2, vl_zero]; rfl
theorem sh_le {r e : Nat} (h : r ≤ e * 4503599627370496) : sh r ≤ e - 1 := by unfold sh; omega
theorem up20 {x : Nat} (h : In01 x) : ∃ r, double.mul x 4697254411347427328 = some (double.word (ng x) r) ∧ vl r = vl (rg x) * 1048576 ∧ r ≤ 4697254411347427328 := by
  have hx := h.1
  have hs : sh (rg x) ≤ 1022 := sh_le (e := 1023) (by omega)
  obtain ⟨r, h1, h2, h3⟩ := mul_up (x := x) 20 (by omega) (by omega) (by omega)
  refine ⟨r, h1, h2, ?_⟩
  refine Nat.le_of_not_lt fun hc => ?_
  have h4 := vl_lt hc
  have h5 := vl_at 1043 0 (by omega) (by omega)
  have h6 := vl_at 1023 0 (by omega) (by omega)
  have h7 := vl_le (show rg x ≤ 1023 * 4503599627370496 + 0 by omega)
  rw [h6] at h7
  rw [show (1043 * 4503599627370496 + 0 : Nat) = 4697254411347427328 by omega] at h5
  rw [h5, h2] at h4
  have h8 : pw 1042 = pw 1022 * pw 20 := pw_add 1022 20
  have h9 : pw 20 = 2 ^ 20 := rfl
  rw [show 1043 - 1 = 1042 by omega, h8, h9] at h4
  rw [show 1023 - 1 = 1022 by omega] at h7
  generalize pw 1022 = P at h4 h7
  generalize vl (rg x) = V at h4 h7
  omega
/-- what is behind the point -/
theorem rest_sv {y : Nat} (hs : ng y = false ∨ rg y = 0) (hy : rg y ≤ 4697254411347427328) {q : Nat} (hq : q < 9007199254740992) (h : q * K1 ≤ vl (rg y)) :
    ∃ d, double.sub y (FloatKind.f64.nearest (q : Int)) = some d ∧ rg d ≤ 9218868437227405312 ∧ sv d = ((vl (rg y) - q * K1 : Nat) : Int) := by
  obtain ⟨r, h1, h2, h3, h4, h5⟩ := fl_sv hq
  have ha : sh (rg y) ≤ 1042 := sh_le (e := 1043) (by omega)
  unfold Format.sub
  rw [h1, read_fin (by omega), read_fin (x := r) (by omega), h2, h3]
  simp only [Datum.opposite, Datum.sum, Bool.not_false, Option.map_some, Format.write]
  obtain ⟨b, hb, b1, b2⟩ : ∃ b : Nat, min (-1074 + ((sh (rg y) : Nat) : Int)) (-1074 + ((sh r : Nat) : Int)) = -1074 + (b : Int) ∧ b ≤ sh (rg y) ∧ b ≤ sh r := ⟨min (sh (rg y)) (sh r), by omega, by omega, by omega⟩
  rw [hb, show (-1074 + ((sh (rg y) : Nat) : Int) - (-1074 + (b : Int))).toNat = sh (rg y) - b by omega, show (-1074 + ((sh r : Nat) : Int) - (-1074 + (b : Int))).toNat = sh r - b by omega]
  -- the total, in units of 2 ^ b
  have e1 : signed (ng y) (mg (rg y)) (sh (rg y) - b) = ((mg (rg y) * 2 ^ (sh (rg y) - b) : Nat) : Int) := by
    unfold signed; rw [Nat.shiftLeft_eq]
    rcases hs with h6 | h6
    · rw [h6, if_neg (by decide)]
    · rw [h6, show mg 0 = 0 by decide, Nat.zero_mul]; cases ng y <;> rfl
  have e2 : signed true (mg r) (sh r - b) = -((mg r * 2 ^ (sh r - b) : Nat) : Int) := by
    unfold signed; rw [Nat.shiftLeft_eq, if_pos rfl]
  rw [e1, e2]
  have p1 : mg (rg y) * 2 ^ (sh (rg y) - b) * 2 ^ b = vl (rg y) := by rw [Nat.mul_assoc, ← Nat.pow_add, Nat.sub_add_cancel b1]; rfl
  have p2 : mg r * 2 ^ (sh r - b) * 2 ^ b = q * K1 := by rw [Nat.mul_assoc, ← Nat.pow_add, Nat.sub_add_cancel b2]; exact h4
  have pb : 0 < 2 ^ b := Nat.pow_pos (by omega)
  have le : mg r * 2 ^ (sh r - b) ≤ mg (rg y) * 2 ^ (sh (rg y) - b) := by
    refine Nat.le_of_mul_le_mul_right ?_ pb
    rw [p1, p2]; exact h
  obtain ⟨D, hD⟩ : ∃ D, mg (rg y) * 2 ^ (sh (rg y) - b) = mg r * 2 ^ (sh r - b) + D := ⟨_, (Nat.add_sub_cancel' le).symm⟩
  have e3 : ((mg (rg y) * 2 ^ (sh (rg y) - b) : Nat) : Int) + -((mg r * 2 ^ (sh r - b) : Nat) : Int) = (D : Int) := by omega
  rw [e3]
  have hDv : D * 2 ^ b = vl (rg y) - q * K1 := by
    have := congrArg (· * 2 ^ b) hD
    simp only [Nat.add_mul] at this
    rw [p1, p2] at this
    omega
  by_cases h0 : D = 0
  · subst h0
    rw [Nat.zero_mul] at hDv
    refine ⟨_, rfl, ?_, ?_⟩
    · show rg (double.nearest _ 0 _) ≤ _
      rw [nearest_zero, word_rg _ (by omega)]; omega
    · show sv (double.nearest _ 0 _) = _
      rw [nearest_zero, sv_nul (word_rg _ (by omega)), ← hDv]; rfl
  · rw [if_neg (by omega), decide_eq_false (by omega), Int.natAbs_natCast]
    -- D is a multiple of 2 ^ (sh y - b)
    have hk : q * K1 = q * 2 ^ (1074 - sh (rg y)) * 2 ^ sh (rg y) := by
      rw [Nat.mul_assoc, ← Nat.pow_add, Nat.sub_add_cancel (by omega)]; rfl
    obtain ⟨m, hm⟩ : ∃ m, m = mg (rg y) - q * 2 ^ (1074 - sh (rg y)) := ⟨_, rfl⟩
    have hm2 : D * 2 ^ b = m * 2 ^ sh (rg y) := by
      rw [hDv, hm, Nat.sub_mul, ← hk]; rfl
    have hm3 : D = m * 2 ^ (sh (rg y) - b) := by
      refine Nat.eq_of_mul_eq_mul_right pb ?_
      rw [hm2, Nat.mul_assoc, ← Nat.pow_add, Nat.sub_add_cancel b1]
    have hm0 : m ≠ 0 := fun hc => h0 (by rw [hm3, hc, Nat.zero_mul])
    obtain ⟨d, d1, d2, d3⟩ := nearest_vl false m (sh (rg y) - b) (sh (rg y)) (-1074 + (b : Int)) hm0 (by have := mg_lt (rg y); omega) (by omega) (by omega)
    refine ⟨_, congrArg some ((congrArg (fun z => double.nearest false z (-1074 + (b : Int))) hm3).trans d1), ?_, ?_⟩
    · rw [word_rg _ (by omega)]; omega
    · rw [sv_of (word_ng _ (by omega)) (word_rg _ (by omega)), d2, ← hDv, hm2]; rfl
/-- the nearest whole number, between two the even one -/
def rhe (n d : Nat) : Nat := n / d + if d < 2 * (n % d) ∨ (d = 2 * (n % d) ∧ n / d % 2 = 1) then 1 else 0
theorem half_lt {d N : Nat} (hd : rg d ≤ 9218868437227405312) (hN : sv d = N) : (FloatKind.f64.format.order d 4602678819172646912 == some Ordering.gt) = decide (K1 < 2 * N) ∧ (FloatKind.f64.format.order d 4602678819172646912 == some Ordering.eq) = decide (K1 = 2 * N) := by
  have hk : K1 = 2 * pw 1073 := by
    have : pw 1074 = pw 1 * pw 1073 := pw_add 1 1073
    unfold K1; rw [this, show pw 1 = 2 from rfl]
  rw [fo_sv hd (by decide), hN, sv_half, hk]
  rcases Nat.lt_trichotomy N (pw 1073) with h | h | h
  · rw [Int.compare_eq_lt.2 (by omega), decide_eq_false (by omega), decide_eq_false (by omega)]; exact ⟨rfl, rfl⟩
  · rw [h, cmp_eq, decide_eq_false (by omega), decide_eq_true (by omega)]; exact ⟨rfl, rfl⟩
  · rw [Int.compare_eq_gt.2 (by omega), decide_eq_true (by omega), decide_eq_false (by omega)]; exact ⟨rfl, rfl⟩
end Go.Proofs.Ytclfambjkolckaa.Fl
-- part: ShareV3
namespace Go.Proofs.Ytclfambjkolckaa.Fl
open Go Go.RowKit Ieee
set_option linter.unusedVariables false
set_option linter.unusedSimpArgs false
theorem rhe_mul (n d c : Nat) (hc : 0 < c) : rhe (n * c) (d * c) = rhe n d := by
  unfold rhe
  rw [Nat.mul_div_mul_right _ _ hc, Nat.mul_mod_mul_right]
  congr 1
  have e1 : (d * c < 2 * (n % d * c)) ↔ (d < 2 * (n % d)) := by
    rw [← Nat.mul_assoc]; exact Nat.mul_lt_mul_right hc
  have e2 : (d * c = 2 * (n % d * c)) ↔ (d = 2 * (n % d)) := by
    rw [← Nat.mul_assoc]; exact Nat.mul_left_inj (by omega)
  simp only [e1, e2]
theorem rhe_le (n d k : Nat) (hd : 0 < d) (h : n ≤ k * d) : rhe n d ≤ k := by
  unfold rhe
  have h1 : n / d ≤ k := Nat.div_le_of_le_mul (by rw [Nat.mul_comm]; exact h)
  split
  · rename_i hc
    rcases Nat.lt_or_eq_of_le h1 with h2 | h2
    · omega
    · have h3 := Nat.div_add_mod n d
      rw [h2, Nat.mul_comm] at h3
      omega
  · omega
theorem rhe_exact (n d : Nat) (hd : 0 < d) : rhe (n * d) d = n := by
  unfold rhe
  rw [Nat.mul_div_cancel _ hd, Nat.mul_mod_left, if_neg (by omega)]; rfl
theorem cut_even (s : Bool) (n drop : Nat) : Toward.even.cut s n drop = rhe n (2 ^ drop) := by
  unfold Toward.cut rhe
  rcases Nat.lt_or_ge (n.log2 + 2) drop with h | h
  · rw [Nat.min_eq_right (by omega)]
    have hn : 2 * n < 2 ^ (n.log2 + 2) := by
      have : n < 2 ^ (n.log2 + 1) := Nat.lt_log2_self
      rw [Nat.pow_succ]; omega
    have hd : 2 ^ (n.log2 + 2) ≤ 2 ^ drop := Nat.pow_le_pow_right (by omega) (by omega)
    simp only [Nat.one_shiftLeft]
    rw [Nat.div_eq_of_lt (by omega), Nat.mod_eq_of_lt (by omega), Nat.div_eq_of_lt (by omega), Nat.mod_eq_of_lt (show n < 2 ^ drop by omega), if_neg (by omega), decide_eq_false (by omega), show (2 ^ (n.log2 + 2) == 2 * n) = false from beq_eq_false_iff_ne.2 (by omega)]
    rfl
  · rw [Nat.min_eq_left h]
    simp only [Nat.one_shiftLeft]
    congr 1
    by_cases h1 : 2 ^ drop < 2 * (n % 2 ^ drop)
    · rw [decide_eq_true h1, if_pos (.inl h1)]; rfl
    · rw [decide_eq_false h1]
      by_cases h2 : 2 ^ drop = 2 * (n % 2 ^ drop)
      · by_cases h3 : n / 2 ^ drop % 2 = 1
        · rw [if_pos (.inr ⟨h2, h3⟩), show (2 ^ drop == 2 * (n % 2 ^ drop)) = true from beq_iff_eq.2 h2, show (n / 2 ^ drop % 2 == 1) = true from beq_iff_eq.2 h3]; rfl
        · rw [if_neg (fun h => h.elim h1 (fun h => h3 h.2)), show (2 ^ drop == 2 * (n % 2 ^ drop)) = true from beq_iff_eq.2 h2, show (n / 2 ^ drop % 2 == 1) = false from beq_eq_false_iff_ne.2 h3]; rfl
      · rw [if_neg (fun h => h.elim h1 (fun h => h2 h.1)), show (2 ^ drop == 2 * (n % 2 ^ drop)) = false from beq_eq_false_iff_ne.2 h2]; rfl
theorem cut_zero (s : Bool) (n drop : Nat) : Toward.zero.cut s n drop = n / 2 ^ drop := by
  unfold Toward.cut
  rcases Nat.lt_or_ge (n.log2 + 2) drop with h | h
  · rw [Nat.min_eq_right (by omega)]
    have hn : 2 * n < 2 ^ (n.log2 + 2) := by
      have : n < 2 ^ (n.log2 + 1) := Nat.lt_log2_self
      rw [Nat.pow_succ]; omega
    have hd : 2 ^ (n.log2 + 2) ≤ 2 ^ drop := Nat.pow_le_pow_right (by omega) (by omega)
    simp only [Nat.one_shiftLeft]
    rw [Nat.div_eq_of_lt (by omega), Nat.div_eq_of_lt (by omega)]; rfl
  · rw [Nat.min_eq_left h]
    simp only [Nat.one_shiftLeft]; rfl
theorem y_le {y : Nat} (hy : rg y ≤ 4697254411347427328) : vl (rg y) ≤ 1048576 * K1 := by
  have h5 := vl_at 1043 0 (by omega) (by omega)
  rw [show (1043 * 4503599627370496 + 0 : Nat) = 4697254411347427328 by omega, Nat.add_zero, ← pw_52, ← pw_add] at h5
  have h7 := vl_le hy
  rw [h5] at h7
  have h8 : pw (20 + 1074) = pw 20 * pw 1074 := pw_add 20 1074
  unfold K1
  rw [show 1048576 = pw 20 from rfl, ← h8]; exact h7
/-- the nearest whole number, as a float, and as an int -/
theorem round_val {y : Nat} (hs : ng y = false ∨ rg y = 0) (hy : rg y ≤ 4697254411347427328) :
    ∃ z, FloatKind.f64.encode ((FloatKind.f64.decode y).integral .even) = z ∧ floatToIntVal .f64 z .i64 = some ((rhe (vl (rg y)) K1 : Nat) : Int) := by
  refine ⟨_, rfl, ?_⟩
  have ha : sh (rg y) ≤ 1042 := sh_le (e := 1043) (by omega)
  have hR : rhe (mg (rg y)) (2 ^ (1074 - sh (rg y))) = rhe (vl (rg y)) K1 := by
    have : K1 = 2 ^ (1074 - sh (rg y)) * 2 ^ sh (rg y) := by rw [← Nat.pow_add, Nat.sub_add_cancel (by omega)]; rfl
    rw [this]; exact (rhe_mul _ _ _ (Nat.pow_pos (by omega))).symm
  have hle : rhe (vl (rg y)) K1 ≤ 1048576 := rhe_le _ _ _ K1_pos (y_le hy)
  have e1 : (FloatKind.f64.decode y).integral .even = .number (ng y) (rhe (vl (rg y)) K1) 0 := by
    show (double.read y).integral .even = _
    rw [read_fin (by omega)]
    simp only [Datum.integral]
    rw [show (-1074 + ((sh (rg y) : Nat) : Int)).toNat = 0 by omega, Nat.shiftLeft_zero, cut_even, show (-(-1074 + ((sh (rg y) : Nat) : Int))).toNat = 1074 - sh (rg y) by omega, hR]
  rw [e1]
  generalize hRR : rhe (vl (rg y)) K1 = R at hle
  have hz : ng y = true → R = 0 := fun h => by
    have : rg y = 0 := hs.resolve_left (by rw [h]; decide)
    rw [← hRR, this, vl_zero]
    have := rhe_exact 0 K1 K1_pos
    rwa [Nat.zero_mul] at this
  show floatToIntVal .f64 (double.nearest (ng y) R 0) .i64 = _
  obtain ⟨r, h1, h2, h3⟩ : ∃ r, double.nearest (ng y) R 0 = double.word (ng y) r ∧ vl r = R * pw 1074 ∧ r < 9218868437227405312 := by
    by_cases h0 : R = 0
    · subst h0; exact ⟨0, nearest_zero _ _, by rw [vl_zero, Nat.zero_mul], by omega⟩
    · have := nearest_vl (ng y) R 0 1074 0 h0 (by omega) (by omega) (by omega)
      rwa [Nat.pow_zero, Nat.mul_one] at this
  rw [h1]
  have e2 : (FloatKind.f64.decode (double.word (ng y) r)).toInt .zero = some (R : Int) := by
    show (double.read (double.word (ng y) r)).toInt .zero = _
    rw [read_word _ h3]
    unfold Datum.toInt Datum.integral
    simp only
    have hs2 : sh r ≤ 1074 := by
      refine Nat.le_of_not_lt fun hc => ?_
      have h4 : mg r = 4503599627370496 + r % 4503599627370496 := by unfold sh at hc; unfold mg; rw [if_neg (by omega)]
      have h5 : vl r = mg r * pw (sh r) := rfl
      obtain ⟨d, hd⟩ : ∃ d, sh r = d + 1074 := ⟨sh r - 1074, by omega⟩
      rw [h5, hd, pw_add, ← Nat.mul_assoc] at h2
      have h6 := Nat.eq_of_mul_eq_mul_right (pw_pos 1074) h2
      have h7 : mg r * 1 ≤ mg r * pw d := Nat.mul_le_mul_left _ (pw_pos d)
      omega
    have h5 : mg r = R * 2 ^ (1074 - sh r) := by
      have h6 : vl r = mg r * pw (sh r) := rfl
      have h7 : pw 1074 = pw (1074 - sh r) * pw (sh r) := by rw [← pw_add, Nat.sub_add_cancel hs2]
      rw [h6, h7, ← Nat.mul_assoc] at h2
      exact Nat.eq_of_mul_eq_mul_right (pw_pos _) h2
    rw [show (-1074 + ((sh r : Nat) : Int)).toNat = 0 by omega, Nat.shiftLeft_zero, cut_zero, show (-(-1074 + ((sh r : Nat) : Int))).toNat = 1074 - sh r by omega, h5, Nat.mul_div_cancel _ (Nat.pow_pos (by omega))]
    unfold signed
    rw [Nat.shiftLeft_zero]
    cases hn : ng y
    · rfl
    · rw [hz hn]; rfl
  unfold floatToIntVal
  rw [e2]
  simp only
  rw [if_pos ⟨by have : IntKind.i64.min = -9223372036854775808 := by decide
                 omega, by have : IntKind.i64.max = 9223372036854775807 := by decide
                           omega⟩]
end Go.Proofs.Ytclfambjkolckaa.Fl
-- part: ShareL2
namespace Go.Proofs.Ytclfambjkolckaa.Fl
open Go Go.RowKit Ieee Go.Proofs.Ytclfambjkolckaa.ShareM
set_option linter.unusedVariables false
set_option linter.unusedSimpArgs false
theorem ng_lo {x : Nat} (h : x < 9223372036854775808) : ng x = false := by unfold ng; rw [Nat.div_eq_of_lt h]; rfl
theorem rg_lo {x : Nat} (h : x < 9223372036854775808) : rg x = x := by unfold rg; omega
theorem word_false (r : Nat) : double.word false r = r := rfl
theorem one_mul {X : Nat} (h : X < 9218868437227405312) (hs : sh X ≤ 2045) : FloatKind.f64.format.mul 4607182418800017408 X = some X := by
  obtain ⟨r, h1, h2, h3⟩ := up_mul (x := X) 0 (by omega) (by rw [rg_lo (by omega)]; exact h) (by rw [rg_lo (by omega)]; omega)
  rw [rg_lo (by omega), Nat.pow_zero, Nat.mul_one] at h2
  rw [vl_inj h2, ng_lo (by omega), word_false] at h1
  exact h1
theorem abs_far {x : Nat} (h : x < 9218868437227405312) : (FloatKind.f64.format.order (absw x) 9218868437227405311 == some Ordering.gt) = false := by
  unfold absw
  rw [abs_bits (by omega), rg_lo (by omega), far_iff (by rw [rg_lo (by omega)]; omega), rg_lo (by omega), decide_eq_false (by omega), Bool.and_false]
theorem abs_small {x : Nat} (h : x < 9218868437227405312) : (FloatKind.f64.format.order (absw x) 4503599627370496 == some Ordering.lt) = decide (x < 4503599627370496) := by
  unfold absw
  rw [abs_bits (by omega), rg_lo (by omega), fo_sv (by rw [rg_lo (by omega)]; omega) (by decide), sv_of (ng_lo (by omega)) (rg_lo (by omega)), sv_of (x := 4503599627370496) (r := 4503599627370496) (by decide) (by decide)]
  rcases Nat.lt_trichotomy x 4503599627370496 with h1 | h1 | h1
  · rw [Int.compare_eq_lt.2 (by have := vl_lt h1; omega), decide_eq_true h1]; rfl
  · subst h1; rw [cmp_eq]; rfl
  · rw [Int.compare_eq_gt.2 (by have := vl_lt h1; omega), decide_eq_false (by omega)]; rfl
/-- a normal number, k up -/
theorem ldexp_n {x : Nat} (k : Int) (hk : -100 ≤ k ∧ k ≤ 100) (h1 : 4503599627370496 ≤ x) (h2 : x < 9218868437227405312) {E : Nat} (hE : ((E : Nat) : Int) = (x / 4503599627370496 : Nat) + k) (hE1 : 1 ≤ E) (hE2 : E ≤ 2046) (w : World) :
    Calls Try.prog 164 #[.float .f64 x, .int .i64 k] w fun e w' => e = .returned (.float .f64 (E * 4503599627370496 + x % 4503599627370496)) ∧ w = w' := by
  have hz : ¬ rg x = 0 := by rw [rg_lo (by omega)]; omega
  have hx := rg_lo (x := x) (by omega)
  have hb : E * 4503599627370496 + x % 4503599627370496 < 9218868437227405312 := by omega
  refine ldexp_norm x x (E * 4503599627370496 + x % 4503599627370496) (E * 4503599627370496 + x % 4503599627370496) k 0 ((x / 4503599627370496 % 2048 : Nat) : Int) w ?_ (fun w => normalize_big x w ?_) ?_ (abs_far h2) (exp_bits (by omega)) (by omega) (by omega) hk.1 hk.2 (by omega) (by omega) (by omega) (by omega) ?_ ?_
  · rw [o_pos (by omega) (ng_lo (by omega)) hz]; rfl
  · rw [abs_small h2, decide_eq_false (by omega)]
  · exact t_num (by omega)
  · exact put_bits (by omega) E (by omega) (by omega)
  · exact one_mul hb (by unfold sh; omega)
theorem mul_down53 {X : Nat} (x E : Nat) (hx : x ≠ 0) (hx2 : x < 4503599627370496) (hE : 1 ≤ E) (hE2 : E ≤ 32) (h : mg X = x * 2 ^ (53 - E)) (hs : sh X = E + 20) (hX : X < 9218868437227405312) :
    ∃ r, FloatKind.f64.format.mul 4368491638549381120 X = some r ∧ vl r = x * 1048576 ∧ r < 9218868437227405312 := by
  show ∃ r, double.mul 4368491638549381120 X = some r ∧ _
  have e : double.read 4368491638549381120 = .number false 4503599627370496 (-105) := by decide
  obtain ⟨r, h1, h2, h3⟩ := nearest_vl false x (105 - E) 20 (-105 + (-1074 + ((E + 20 : Nat) : Int))) hx (by omega) (by omega) (by omega)
  refine ⟨r, ?_, h2, h3⟩
  unfold Format.mul
  rw [e, read_fin (by rw [rg_lo (by omega)]; exact hX), rg_lo (by omega), ng_lo (by omega), h, hs]
  simp only [Datum.product, Option.map_some, Format.write, Bool.xor_false]
  have e2 : 4503599627370496 * (x * 2 ^ (53 - E)) = x * 2 ^ (105 - E) := by
    rw [Nat.mul_left_comm, show (4503599627370496 : Nat) = 2 ^ 52 from rfl, ← Nat.pow_add, show 52 + (53 - E) = 105 - E by omega]
  rw [e2, h1, word_false]
/-- 20 up, between 0 and 1 -/
theorem ldexp_up {x y : Nat} (hx : x < 18446744073709551616) (h : In01 x) (hy : double.mul x 4697254411347427328 = some y) (w : World) :
    Calls Try.prog 132 #[.float .f64 x, .int .i64 20] w fun e w' => e = .returned (.float .f64 y) ∧ w = w' := by
  refine ldexp_top x y 20 w ?_
  obtain ⟨ry, h1, h2, h3⟩ := up20 h
  have hyr : y = double.word (ng x) ry := by rw [hy] at h1; exact Option.some.inj h1
  clear h1 hy
  by_cases h0 : rg x = 0
  · have : ry = 0 := by
      refine vl_inj ?_
      rw [h2, h0, vl_zero, Nat.zero_mul]
    rw [hyr, this]
    have := ldexp_zero x 20 w (by rw [o_nul h0]; rfl)
    rwa [show double.word (ng x) 0 = x by rw [← h0]; exact of_word hx]
  have hn : ng x = false := h.2.resolve_right h0
  have hlo : x < 9223372036854775808 := by
    have := of_word hx; rw [hn, word_false] at this; have := rg_lt x; omega
  have hr := rg_lo hlo
  have hle := h.1
  rw [hr] at h0 h2 hle
  rw [hyr, hn, word_false]
  by_cases hs : 4503599627370496 ≤ x
  · have hb := ldexp_n 20 (by omega) hs (by omega) (E := x / 4503599627370496 + 20) (by omega) (by omega) (by omega) w
    have e : ry = (x / 4503599627370496 + 20) * 4503599627370496 + x % 4503599627370496 := by
      refine vl_inj ?_
      have e1 := vl_at (x / 4503599627370496 + 20) (x % 4503599627370496) (by omega) (by omega)
      have e2 := vl_at (x / 4503599627370496) (x % 4503599627370496) (by omega) (by omega)
      rw [show x / 4503599627370496 * 4503599627370496 + x % 4503599627370496 = x by omega] at e2
      rw [e1, h2, e2, show x / 4503599627370496 + 20 - 1 = (x / 4503599627370496 - 1) + 20 by omega, pw_add, Nat.mul_assoc]; rfl
    rw [e]; exact hb
  · obtain ⟨r1, m1, m2, m3⟩ := mul_up (x := x) 52 (by omega) (by omega) (by unfold sh; omega)
    have hv : vl x = x := vl_small (by omega)
    rw [hn, word_false] at m1
    rw [hr, hv] at m2
    rw [hv] at h2
    have hr1 : 4503599627370496 ≤ r1 := by
      refine Nat.le_of_not_lt fun hc => ?_
      have := vl_lt hc
      rw [m2, vl_small (by omega)] at this
      have : 1 * 2 ^ 52 ≤ x * 2 ^ 52 := Nat.mul_le_mul_right _ (by omega)
      omega
    have e2 := vl_at (r1 / 4503599627370496) (r1 % 4503599627370496) (by omega) (by omega)
    rw [show r1 / 4503599627370496 * 4503599627370496 + r1 % 4503599627370496 = r1 by omega, m2] at e2
    have hE : r1 / 4503599627370496 ≤ 52 := by
      refine Nat.le_of_not_lt fun hc => ?_
      have : pw 52 ≤ pw (r1 / 4503599627370496 - 1) := Nat.pow_le_pow_right (by omega) (by omega)
      have h5 : 4503599627370496 * pw 52 ≤ (4503599627370496 + r1 % 4503599627370496) * pw (r1 / 4503599627370496 - 1) := Nat.mul_le_mul (by omega) this
      rw [← e2, pw_52] at h5
      omega
    have t0 : (FloatKind.f64.format.order x 0 == some Ordering.eq) = false := by rw [o_pos (by omega) hn (by omega)]; rfl
    have tn : ∀ w, Calls Try.prog 170 #[.float .f64 x] w fun e' w' => e' = .returned (.tuple #[.float .f64 r1, .int .i64 (-52)]) ∧ w = w' := fun w =>
      normalize_small x r1 w (by rw [abs_small (by omega), decide_eq_true (by omega)]) m1
    by_cases h33 : 33 ≤ r1 / 4503599627370496
    · have e : ry = (r1 / 4503599627370496 - 32) * 4503599627370496 + r1 % 4503599627370496 := by
        refine vl_inj ?_
        have e1 := vl_at (r1 / 4503599627370496 - 32) (r1 % 4503599627370496) (by omega) (by omega)
        refine Nat.eq_of_mul_eq_mul_right (pw_pos 32) ?_
        rw [e1, h2, Nat.mul_assoc, Nat.mul_assoc, ← pw_add, show r1 / 4503599627370496 - 32 - 1 + 32 = r1 / 4503599627370496 - 1 by omega, ← e2]
        rfl
      have hb : (r1 / 4503599627370496 - 32) * 4503599627370496 + r1 % 4503599627370496 < 9218868437227405312 := by omega
      rw [e]
      refine ldexp_norm x r1 ((r1 / 4503599627370496 - 32) * 4503599627370496 + r1 % 4503599627370496) ((r1 / 4503599627370496 - 32) * 4503599627370496 + r1 % 4503599627370496) 20 (-52) ((r1 / 4503599627370496 % 2048 : Nat) : Int) w t0 tn (t_num (by omega)) (abs_far (by omega)) (exp_bits (by omega)) (by omega) (by omega) (by omega) (by omega) (by omega) (by omega) (by omega) (by omega) ?_ ?_
      · exact put_bits (by omega) (r1 / 4503599627370496 - 32) (by omega) (by omega)
      · exact one_mul hb (by unfold sh; omega)
    · obtain ⟨E, hEE⟩ : ∃ E, E = r1 / 4503599627370496 := ⟨_, rfl⟩
      have hX : (E + 21) * 4503599627370496 + r1 % 4503599627370496 < 9218868437227405312 := by omega
      have g1 : mg ((E + 21) * 4503599627370496 + r1 % 4503599627370496) = 4503599627370496 + r1 % 4503599627370496 := by unfold mg; rw [if_neg (by omega)]; omega
      have g2 : sh ((E + 21) * 4503599627370496 + r1 % 4503599627370496) = E + 20 := by unfold sh; omega
      have g3 : 4503599627370496 + r1 % 4503599627370496 = x * 2 ^ (53 - E) := by
        refine Nat.eq_of_mul_eq_mul_right (pw_pos (E - 1)) ?_
        rw [hEE, ← e2, Nat.mul_assoc]
        congr 1
        show 2 ^ 52 = 2 ^ (53 - r1 / 4503599627370496) * 2 ^ (r1 / 4503599627370496 - 1)
        rw [← Nat.pow_add, show 53 - r1 / 4503599627370496 + (r1 / 4503599627370496 - 1) = 52 by omega]
      obtain ⟨r, q1, q2, q3⟩ := mul_down53 (X := (E + 21) * 4503599627370496 + r1 % 4503599627370496) x E (by omega) (by omega) (by omega) (by omega) (by rw [g1, g3]) g2 hX
      have e : ry = r := vl_inj (by rw [h2, q2])
      rw [e]
      refine ldexp_den x r1 ((E + 21) * 4503599627370496 + r1 % 4503599627370496) r 20 (-52) ((r1 / 4503599627370496 % 2048 : Nat) : Int) w t0 tn (t_num (by omega)) (abs_far (by omega)) (exp_bits (by omega)) (by omega) (by omega) (by omega) (by omega) (by omega) (by omega) (by omega) (by omega) ?_ q1
      exact put_bits (by omega) (E + 21) (by omega) (by omega)
end Go.Proofs.Ytclfambjkolckaa.Fl
