/- Floats of 64 bits in whole numbers: a word's size in units of the least one; order, exactness. -/
import GoSem.Core.Float
namespace Go.Proofs.Ytclfambjkolckaa.Fl
open Ieee
set_option linter.unusedVariables false
theorem binade_ : double.binade = 4503599627370496 := by decide
theorem least_ : double.leastPlace = -1074 := by decide
theorem inf_ : double.infRung = 9218868437227405312 := by decide
theorem sign_ : double.signWeight = 9223372036854775808 := by decide
theorem frac_ : double.fractionBits = 52 := rfl
/-- rung, sign -/
def rg (x : Nat) : Nat := x % 9223372036854775808
def ng (x : Nat) : Bool := x / 9223372036854775808 % 2 == 1
def mg (r : Nat) : Nat := if r < 4503599627370496 then r else 4503599627370496 + r % 4503599627370496
def sh (r : Nat) : Nat := r / 4503599627370496 - 1
/-- the size of a rung, in units of 2 ^ -1074 -/
def vl (r : Nat) : Nat := mg r * 2 ^ sh r
def sv (x : Nat) : Int := if ng x then -(vl (rg x) : Int) else vl (rg x)
def isNan (x : Nat) : Bool := decide (9218868437227405312 < rg x)
theorem read_fin {x : Nat} (h : rg x < 9218868437227405312) : double.read x = .number (ng x) (mg (rg x)) (-1074 + (sh (rg x) : Nat)) := by
  unfold Format.read
  simp only [binade_, least_, inf_, sign_]
  unfold rg at h ⊢
  unfold ng mg sh
  by_cases h1 : x % 9223372036854775808 < 4503599627370496
  · rw [if_pos h1, if_pos h1, Nat.div_eq_of_lt h1]; rfl
  · rw [if_neg h1, if_neg h1, if_pos h]
theorem read_inf {x : Nat} (h : rg x = 9218868437227405312) : double.read x = .infinity (ng x) := by
  unfold Format.read
  simp only [binade_, least_, inf_, sign_]
  unfold rg at h; unfold ng
  rw [if_neg (by omega), if_neg (by omega), if_pos h]
theorem read_nan {x : Nat} (h : 9218868437227405312 < rg x) : double.read x = .nan (ng x) (rg x - 9218868437227405312) := by
  unfold Format.read
  simp only [binade_, least_, inf_, sign_]
  unfold rg at h; unfold ng rg
  rw [if_neg (by omega), if_neg (by omega), if_neg (by omega)]
/-- a rung as exponent and fraction; the fraction may come up to a whole binade -/
theorem vl_of (e g : Nat) (he : 1 ≤ e) (hg : g ≤ 4503599627370496) : vl (e * 4503599627370496 + g) = (4503599627370496 + g) * 2 ^ (e - 1) := by
  unfold vl mg sh
  rcases Nat.lt_or_eq_of_le hg with h | h
  · rw [if_neg (by omega), show (e * 4503599627370496 + g) % 4503599627370496 = g by omega, show (e * 4503599627370496 + g) / 4503599627370496 = e by omega]
  · subst h
    rw [if_neg (by omega), show (e * 4503599627370496 + 4503599627370496) % 4503599627370496 = 0 by omega, show (e * 4503599627370496 + 4503599627370496) / 4503599627370496 - 1 = (e - 1) + 1 by omega, Nat.pow_succ]
    omega
theorem vl_small {r : Nat} (h : r ≤ 9007199254740992) : vl r = r := by
  by_cases h1 : r < 4503599627370496
  · unfold vl mg sh
    rw [if_pos h1, Nat.div_eq_of_lt h1]; simp
  · have := vl_of 1 (r - 4503599627370496) (by omega) (by omega)
    rw [show 1 * 4503599627370496 + (r - 4503599627370496) = r by omega] at this
    rw [this]; simp
theorem vl_step (r : Nat) : vl r < vl (r + 1) := by
  by_cases h : r < 4503599627370496
  · rw [vl_small (by omega), vl_small (by omega)]; omega
  · obtain ⟨e, g, he, hg, rfl⟩ : ∃ e g, 1 ≤ e ∧ g < 4503599627370496 ∧ r = e * 4503599627370496 + g := ⟨r / 4503599627370496, r % 4503599627370496, by omega, by omega, by omega⟩
    rw [vl_of e g he (by omega), Nat.add_assoc, vl_of e (g + 1) he (by omega)]
    exact Nat.mul_lt_mul_of_pos_right (by omega) (Nat.pow_pos (by omega))
theorem vl_lt {r s : Nat} (h : r < s) : vl r < vl s := by
  obtain ⟨d, rfl⟩ : ∃ d, s = r + 1 + d := ⟨s - r - 1, by omega⟩
  clear h
  induction d with
  | zero => exact vl_step r
  | succ d ih => exact Nat.lt_trans ih (vl_step _)
theorem vl_lt_iff {r s : Nat} : vl r < vl s ↔ r < s := ⟨fun h => Nat.lt_of_not_le fun h' => by
  rcases Nat.lt_or_eq_of_le h' with h2 | h2
  · exact absurd h (Nat.not_lt.2 (Nat.le_of_lt (vl_lt h2)))
  · subst h2; exact absurd h (Nat.lt_irrefl _), vl_lt⟩
theorem vl_inj {r s : Nat} (h : vl r = vl s) : r = s := by
  rcases Nat.lt_trichotomy r s with h1 | h1 | h1
  · have := vl_lt h1; omega
  · exact h1
  · have := vl_lt h1; omega
theorem compare_mul (a b c : Int) (hc : 0 < c) : compare (a * c) (b * c) = compare a b := by
  rcases Int.lt_trichotomy a b with h | h | h
  · rw [Int.compare_eq_lt.2 h, Int.compare_eq_lt.2 (Int.mul_lt_mul_of_pos_right h hc)]
  · subst h; rw [Int.compare_eq_eq.2 rfl, Int.compare_eq_eq.2 rfl]
  · rw [Int.compare_eq_gt.2 h, Int.compare_eq_gt.2 (Int.mul_lt_mul_of_pos_right h hc)]
theorem signed_mul (s : Bool) (m a b : Nat) : signed s m a * ((2 ^ b : Nat) : Int) = signed s m (a + b) := by
  unfold signed
  rw [Nat.shiftLeft_eq, Nat.shiftLeft_eq, Nat.pow_add, ← Nat.mul_assoc]
  cases s <;> simp [Int.neg_mul]
theorem sv_signed (x : Nat) : sv x = signed (ng x) (mg (rg x)) (sh (rg x)) := by
  unfold sv signed vl
  rw [Nat.shiftLeft_eq]
/-- order is the order of sizes -/
theorem order_sv {x y : Nat} (hx : rg x ≤ 9218868437227405312) (hy : rg y ≤ 9218868437227405312) : double.order x y = some (compare (sv x) (sv y)) := by
  unfold Format.order
  have pos : ∀ z, rg z < 9218868437227405312 → (-(vl 9218868437227405312 : Int) < sv z ∧ sv z < (vl 9218868437227405312 : Int)) := fun z hz => by
    have h := vl_lt hz
    unfold sv
    cases ng z <;> simp <;> omega
  rcases Nat.lt_or_eq_of_le hx with h1 | h1 <;> rcases Nat.lt_or_eq_of_le hy with h2 | h2
  · rw [read_fin h1, read_fin h2]
    simp only [Datum.order]
    have hb : ∃ b : Nat, min (-1074 + ((sh (rg x) : Nat) : Int)) (-1074 + ((sh (rg y) : Nat) : Int)) = -1074 + (b : Int) ∧ b ≤ sh (rg x) ∧ b ≤ sh (rg y) := ⟨min (sh (rg x)) (sh (rg y)), by omega, by omega, by omega⟩
    obtain ⟨b, hb, b1, b2⟩ := hb
    rw [hb, show (-1074 + ((sh (rg x) : Nat) : Int) - (-1074 + (b : Int))).toNat = sh (rg x) - b by omega, show (-1074 + ((sh (rg y) : Nat) : Int) - (-1074 + (b : Int))).toNat = sh (rg y) - b by omega]
    rw [← compare_mul _ _ ((2 ^ b : Nat) : Int) (by have := Nat.pow_pos (n := b) (show 0 < 2 by omega); omega), signed_mul, signed_mul, Nat.sub_add_cancel b1, Nat.sub_add_cancel b2, ← sv_signed, ← sv_signed]
  · rw [read_fin h1, read_inf h2]
    simp only [Datum.order]
    have := pos x h1
    have hs : sv y = if ng y then -(vl 9218868437227405312 : Int) else vl 9218868437227405312 := by unfold sv; rw [h2]
    rw [hs]
    cases ng y
    · simp only [Bool.false_eq_true, if_false]; rw [Int.compare_eq_lt.2 this.2]
    · simp only [if_true]; rw [Int.compare_eq_gt.2 this.1]
  · rw [read_inf h1, read_fin h2]
    simp only [Datum.order]
    have := pos y h2
    have hs : sv x = if ng x then -(vl 9218868437227405312 : Int) else vl 9218868437227405312 := by unfold sv; rw [h1]
    rw [hs]
    cases ng x
    · simp only [Bool.false_eq_true, if_false]; rw [Int.compare_eq_gt.2 this.2]
    · simp only [if_true]; rw [Int.compare_eq_lt.2 this.1]
  · rw [read_inf h1, read_inf h2]
    simp only [Datum.order]
    have hp : 0 < vl 9218868437227405312 := Nat.lt_of_le_of_lt (Nat.zero_le (vl 0)) (vl_lt (by omega))
    unfold sv; rw [h1, h2]
    cases ng x <;> cases ng y <;> simp only [Bool.false_eq_true, if_false, if_true]
    · rw [Int.compare_eq_eq.2 rfl]; rfl
    · rw [Int.compare_eq_gt.2 (by omega)]; rfl
    · rw [Int.compare_eq_lt.2 (by omega)]; rfl
    · rw [Int.compare_eq_eq.2 rfl]; rfl
theorem order_nan {x y : Nat} (h : 9218868437227405312 < rg x ∨ 9218868437227405312 < rg y) : double.order x y = none := by
  unfold Format.order
  by_cases hx : 9218868437227405312 < rg x
  · rw [read_nan hx]; rfl
  · have hy : 9218868437227405312 < rg y := by omega
    rw [read_nan hy]
    cases double.read x <;> rfl
/-! ### to the nearest word: where the number is a word's -/
theorem log2_mul_pow (m j : Nat) (hm : m ≠ 0) : (m * 2 ^ j).log2 = m.log2 + j := by
  induction j with
  | zero => simp
  | succ j ih =>
    rw [Nat.pow_succ, ← Nat.mul_assoc, Nat.mul_comm (m * 2 ^ j) 2, Nat.log2_two_mul (by have := Nat.pow_pos (n := j) (show 0 < 2 by omega); exact Nat.mul_ne_zero hm (by omega)), ih]; omega
theorem cut_exact (s : Bool) (m j d : Nat) (hm : m ≠ 0) (hd : d ≤ j) : Toward.even.cut s (m * 2 ^ j) d = m * 2 ^ (j - d) := by
  unfold Toward.cut
  have hl : d ≤ (m * 2 ^ j).log2 := by rw [log2_mul_pow m j hm]; omega
  have hp : 0 < 2 ^ d := Nat.pow_pos (by omega)
  have e : m * 2 ^ j = m * 2 ^ (j - d) * 2 ^ d := by rw [Nat.mul_assoc, ← Nat.pow_add, Nat.sub_add_cancel hd]
  simp only [Nat.min_eq_left (Nat.le_trans hl (Nat.le_add_right _ 2)), Nat.one_shiftLeft]
  rw [e, Nat.mul_div_cancel _ hp, Nat.mul_mod_left]
  simp
/-- 'm * 2 ^ (j + p)' where that is a word -/
theorem nearest_at (s : Bool) (m j : Nat) (p : Int) (hm : m ≠ 0) (h53 : m < 9007199254740992) (hp : -1074 ≤ p + j) :
    double.nearest s (m * 2 ^ j) p = double.word s (min ((max (p + j + m.log2 - 52) (-1074) + 1074).toNat * 4503599627370496 + m * 2 ^ (p + j - max (p + j + m.log2 - 52) (-1074)).toNat) 9218868437227405312) := by
  unfold Format.nearest
  have h0 : m * 2 ^ j ≠ 0 := Nat.mul_ne_zero hm (by have := Nat.pow_pos (n := j) (show 0 < 2 by omega); omega)
  rw [if_neg h0]
  simp only [frac_, least_, binade_, inf_]
  rw [log2_mul_pow m j hm]
  have hl : m.log2 ≤ 52 := by
    have := (Nat.log2_lt hm (k := 53)).2 (by omega)
    omega
  have e1 : p + ((m.log2 + j : Nat) : Int) - ((52 : Nat) : Int) = p + j + m.log2 - 52 := by omega
  rw [e1]
  generalize hL : max (p + (j : Int) + (m.log2 : Int) - 52) (-1074) = L
  have hL1 : L ≤ p + j := by omega
  congr 2
  rcases Int.le_total p L with h | h
  · rw [show (p - L).toNat = 0 by omega, Nat.shiftLeft_zero, cut_exact s m j (L - p).toNat hm (by omega), show j - (L - p).toNat = (p + j - L).toNat by omega]
    congr 2
  · rw [show (L - p).toNat = 0 by omega, Nat.shiftLeft_eq, Nat.mul_assoc, ← Nat.pow_add, cut_exact s m _ 0 hm (by omega), Nat.sub_zero, show j + (p - L).toNat = (p + j - L).toNat by omega]
    congr 2
end Go.Proofs.Ytclfambjkolckaa.Fl
