/- Bits of floats' words. -/
import Derived.Test.YtclfambjkolckaaIeee2
import Derived.WalkKit
namespace Go.Proofs.Ytclfambjkolckaa.Fl
open Go Go.RowKit
set_option linter.unusedVariables false
set_option linter.unusedSimpArgs false
theorem uw (x : Int) (h : 0 ≤ x ∧ x < 18446744073709551616) : IntKind.u64.wrap x = x := by
  simp [IntKind.wrap, IntKind.bits, IntKind.signed]; omega
theorem iw (x : Int) (h : -9223372036854775808 ≤ x ∧ x < 9223372036854775808) : IntKind.i64.wrap x = x := by
  simp [IntKind.wrap, IntKind.bits, IntKind.signed]; omega
theorem ofNat64 (x : Nat) (h : x < 18446744073709551616) : (BitVec.ofInt 64 (x : Int)).toNat = x := by
  rw [BitVec.ofInt_natCast, BitVec.toNat_ofNat]; omega
theorem abs_bits {x : Nat} (h : x < 18446744073709551616) : (bits .andNot .u64 (x : Int) 9223372036854775808).toNat = rg x := by
  unfold bits
  show (IntKind.u64.wrap ((BitVec.ofInt 64 (x : Int) &&& ~~~ BitVec.ofInt 64 9223372036854775808).toNat : Int)).toNat = rg x
  have e : (BitVec.ofInt 64 (x : Int) &&& ~~~ BitVec.ofInt 64 9223372036854775808).toNat = x % 2 ^ 63 := by
    rw [BitVec.toNat_and, ofNat64 x h, show (~~~ BitVec.ofInt 64 9223372036854775808).toNat = 2 ^ 63 - 1 from by decide, Nat.and_two_pow_sub_one_eq_mod]
  rw [e, uw _ (by omega)]
  unfold rg
  omega
theorem exp_bits {y : Nat} (h : y < 18446744073709551616) : bits BinOp.and IntKind.i64 (wrap64 ((y : Int) / 4503599627370496)) 2047 = ((y / 4503599627370496 % 2048 : Nat) : Int) := by
  have e0 : wrap64 ((y : Int) / 4503599627370496) = ((y / 4503599627370496 : Nat) : Int) := by unfold wrap64; omega
  rw [e0]
  unfold bits
  show IntKind.i64.wrap ((BitVec.ofInt 64 ((y / 4503599627370496 : Nat) : Int) &&& BitVec.ofInt 64 2047).toNat : Int) = _
  have e : (BitVec.ofInt 64 ((y / 4503599627370496 : Nat) : Int) &&& BitVec.ofInt 64 2047).toNat = (y / 4503599627370496) % 2 ^ 11 := by
    rw [BitVec.toNat_and, ofNat64 _ (by omega), show (BitVec.ofInt 64 2047).toNat = 2 ^ 11 - 1 from by decide, Nat.and_two_pow_sub_one_eq_mod]
  rw [e, iw _ (by omega)]
theorem and_mask {y : Nat} (h : y < 9223372036854775808) : y &&& 9227875636482146303 = y % 4503599627370496 := by
  have e : (9227875636482146303 : Nat) = 2 ^ 63 + (2 ^ 52 - 1) := by decide
  have e2 : (4503599627370496 : Nat) = 2 ^ 52 := by decide
  rw [e, e2, ← Nat.and_two_pow_sub_one_eq_mod]
  apply Nat.eq_of_testBit_eq
  intro i
  rw [Nat.testBit_and, Nat.testBit_and]
  by_cases hi : i < 63
  · rw [Nat.testBit_two_pow_add_gt hi]
  · have : y.testBit i = false := Nat.testBit_lt_two_pow (Nat.lt_of_lt_of_le h (Nat.le_trans (by decide) (Nat.pow_le_pow_right (by omega) (show 63 ≤ i by omega))))
    rw [this]; rfl
theorem put_bits {y : Nat} (h : y < 9223372036854775808) (e : Nat) (he : e < 2048) {z : Int} (hz : z = (e : Int) * 4503599627370496) :
    bits BinOp.or IntKind.u64 (bits BinOp.andNot IntKind.u64 (y : Int) 9218868437227405312) z = ((e * 4503599627370496 + y % 4503599627370496 : Nat) : Int) := by
  have e1 : bits BinOp.andNot IntKind.u64 (y : Int) 9218868437227405312 = ((y % 4503599627370496 : Nat) : Int) := by
    unfold bits
    show IntKind.u64.wrap ((BitVec.ofInt 64 (y : Int) &&& ~~~ BitVec.ofInt 64 9218868437227405312).toNat : Int) = _
    rw [BitVec.toNat_and, ofNat64 _ (by omega), show (~~~ BitVec.ofInt 64 9218868437227405312).toNat = 9227875636482146303 from by decide, and_mask h, uw _ (by omega)]
  have e2 : z = ((e * 4503599627370496 : Nat) : Int) := by rw [hz]; omega
  rw [e1, e2]
  unfold bits
  show IntKind.u64.wrap ((BitVec.ofInt 64 ((y % 4503599627370496 : Nat) : Int) ||| BitVec.ofInt 64 ((e * 4503599627370496 : Nat) : Int)).toNat : Int) = _
  rw [BitVec.toNat_or, ofNat64 _ (by omega), ofNat64 _ (by omega)]
  have e3 : y % 4503599627370496 ||| e * 4503599627370496 = e * 4503599627370496 + y % 4503599627370496 := by
    have := Nat.shiftLeft_add_eq_or_of_lt (i := 52) (b := y % 4503599627370496) (by omega) e
    rw [Nat.or_comm, show e * 4503599627370496 = e <<< 52 by rw [Nat.shiftLeft_eq], ← this]
  rw [e3, uw _ (by omega)]
theorem sign_bit {x : Nat} (h : x < 18446744073709551616) : decide (wrap64 (x : Int) < 0) = ng x := by
  unfold ng wrap64
  by_cases h1 : x < 9223372036854775808
  · rw [show x / 9223372036854775808 = 0 by omega]; simp; omega
  · rw [show x / 9223372036854775808 = 1 by omega]; simp; omega
theorem flip_bits {x : Nat} (h : x < 18446744073709551616) : x ^^^ 9223372036854775808 = Ieee.double.word (!ng x) (rg x) := by
  have h2 : (9223372036854775808 : Nat) = 2 ^ 63 := by decide
  have main : ∀ z, z < 2 ^ 63 → z ^^^ 2 ^ 63 = 2 ^ 63 + z := fun z hz => by
    have e5 := Nat.two_pow_add_eq_or_of_lt hz 1
    rw [Nat.mul_one] at e5
    rw [e5]
    apply Nat.eq_of_testBit_eq
    intro i
    rw [Nat.testBit_xor, Nat.testBit_or, Nat.testBit_two_pow]
    by_cases hi : 63 = i
    · subst hi; rw [Nat.testBit_lt_two_pow hz]; rfl
    · simp [hi]
  unfold Ieee.Format.word
  rw [sign_]
  by_cases h1 : x < 9223372036854775808
  · have e1 : ng x = false := by unfold ng; rw [show x / 9223372036854775808 = 0 by omega]; rfl
    have e2 : rg x = x := by unfold rg; omega
    rw [e1, e2, h2, main x (by omega)]; rfl
  · obtain ⟨z, rfl⟩ : ∃ z, x = 2 ^ 63 + z := ⟨x - 2 ^ 63, by omega⟩
    have hz : z < 2 ^ 63 := by omega
    have e1 : ng (2 ^ 63 + z) = true := by unfold ng; rw [show (2 ^ 63 + z) / 9223372036854775808 = 1 by omega]; rfl
    have e2 : rg (2 ^ 63 + z) = z := by unfold rg; omega
    rw [e1, e2, h2, ← main z hz, Nat.xor_assoc, Nat.xor_self, Nat.xor_zero]; rfl
end Go.Proofs.Ytclfambjkolckaa.Fl
