/- Addresses as numbers of 128 bits: masks and bits. -/
import Derived.Test.YtlnnghbbjbimoaaWMore
namespace Go.Proofs.Ytlnnghbbjbimoaa.A128
open Go Go.RowKit Go.Proofs.YtlnnghbbjbimoaaW.PrintWords Go.Proofs.YtlnnghbbjbimoaaW.PrintLast Go.Proofs.YtlnnghbbjbimoaaW.PrintMore
set_option linter.unusedVariables false
set_option linter.unusedSimpArgs false

theorem uw (x : Int) (h : 0 ≤ x ∧ x < 18446744073709551616) : IntKind.u64.wrap x = x := by
  simp [IntKind.wrap, IntKind.bits, IntKind.signed]; omega
theorem p2 (s : Nat) : (0 : Int) < 2 ^ s := Int.pow_pos (by decide)
theorem p2n (s : Nat) : (2 : Int) ^ s ≠ 0 := Int.ne_of_gt (p2 s)
theorem p2le (s n : Nat) (h : s ≤ n) : (2 : Int) ^ s ≤ 2 ^ n := by
  obtain ⟨d, rfl⟩ := Nat.exists_eq_add_of_le h
  rw [Int.pow_add]
  have h1 := p2 s; have h2 := p2 d
  have : (2 : Int) ^ s * 1 ≤ 2 ^ s * 2 ^ d := Int.mul_le_mul_of_nonneg_left (by omega) (by omega)
  omega
/-- an address as one number -/
def num (h l : Int) : Int := h * 18446744073709551616 + l
theorem num_lt (h l : Int) (hh : 0 ≤ h ∧ h < 18446744073709551616) (hl : 0 ≤ l ∧ l < 18446744073709551616) : 0 ≤ num h l ∧ num h l < 2 ^ 128 := by
  unfold num; have : (2 : Int) ^ 128 = 340282366920938463463374607431768211456 := by decide
  omega
theorem num_inj (h l h' l' : Int) (hl : 0 ≤ l ∧ l < 18446744073709551616) (hl' : 0 ≤ l' ∧ l' < 18446744073709551616) : num h l = num h' l' ↔ h = h' ∧ l = l' := by
  unfold num; omega
theorem top_hi (h l : Int) (hl : 0 ≤ l ∧ l < 18446744073709551616) (s : Nat) : num h l / 2 ^ (64 + s) = h / 2 ^ s := by
  have e : (2 : Int) ^ (64 + s) = 18446744073709551616 * 2 ^ s := by rw [Int.pow_add]; rfl
  rw [e, ← Int.ediv_ediv_of_nonneg (by omega)]
  have : num h l / 18446744073709551616 = h := by unfold num; omega
  rw [this]
theorem top_lo (h l : Int) (s : Nat) (hs : s ≤ 64) : num h l / 2 ^ s = h * 2 ^ (64 - s) + l / 2 ^ s := by
  have e : (18446744073709551616 : Int) = 2 ^ (64 - s) * 2 ^ s := by rw [← Int.pow_add, Nat.sub_add_cancel hs]; rfl
  unfold num; rw [e, ← Int.mul_assoc, Int.mul_add_ediv_right _ _ (p2n s)]
/-- the first n bits of a word -/
def hi (w n : Int) : Int := if n ≤ 0 then 0 else w / 2 ^ (64 - n).toNat * 2 ^ (64 - n).toNat
theorem andNot_val (w : Int) (s : Nat) (hs : s ≤ 63) (hw : 0 ≤ w ∧ w < 18446744073709551616) : Go.bits .andNot .u64 w (2 ^ s - 1) = w / 2 ^ s * 2 ^ s := by
  obtain ⟨x, rfl⟩ := Int.eq_ofNat_of_zero_le hw.1
  have e1 : ((2 : Int) ^ s - 1) = ((2 ^ s - 1 : Nat) : Int) := by
    rw [Int.ofNat_sub (Nat.one_le_two_pow)]; simp
  have e : BitVec.ofInt 64 (x : Int) &&& ~~~ BitVec.ofInt 64 ((2 ^ s - 1 : Nat) : Int) = (BitVec.ofNat 64 x >>> s) <<< s := by
    rw [BitVec.ofInt_natCast, BitVec.ofInt_natCast]
    apply BitVec.eq_of_getLsbD_eq
    intro i hi
    simp only [BitVec.getLsbD_and, BitVec.getLsbD_not, BitVec.getLsbD_ofNat, Nat.testBit_two_pow_sub_one, BitVec.getLsbD_shiftLeft, BitVec.getLsbD_ushiftRight]
    by_cases h : i < s
    · simp [hi, h]
    · have : s + (i - s) = i := by omega
      simp [hi, h, this]
  unfold Go.bits
  rw [e1]
  show IntKind.u64.wrap ((BitVec.ofInt 64 (x : Int) &&& ~~~ BitVec.ofInt 64 ((2 ^ s - 1 : Nat) : Int)).toNat : Int) = _
  rw [e]
  have hx : x < 2 ^ 64 := by have := hw.2; simp only [Nat.reducePow]; omega
  have hd : x / 2 ^ s * 2 ^ s ≤ x := Nat.div_mul_le_self x (2 ^ s)
  rw [BitVec.toNat_shiftLeft, BitVec.toNat_ushiftRight, BitVec.toNat_ofNat, Nat.mod_eq_of_lt hx, Nat.shiftLeft_eq, Nat.shiftRight_eq_div_pow, Nat.mod_eq_of_lt (by omega), uw _ (by simp only [Nat.reducePow] at hx; omega)]
  simp
theorem shl_val (s : Nat) (hs : s ≤ 63) : shl .u64 1 (s : Int) = 2 ^ s := by
  have h1 : (2 : Int) ^ s ≤ 2 ^ 63 := p2le s 63 hs
  have h2 := p2 s
  have h3 : (2 : Int) ^ 63 = 9223372036854775808 := by decide
  unfold shl; simp only [IntKind.bits, Int.toNat_natCast]
  rw [Nat.min_eq_left (by omega), Int.one_mul, uw _ (by omega)]
/-- equal masks are equal first bits -/
theorem mask_iff (h l h' l' : Int) (N : Int) (hN : 0 ≤ N ∧ N ≤ 128) (hh : 0 ≤ h ∧ h < 18446744073709551616) (hh' : 0 ≤ h' ∧ h' < 18446744073709551616) (hl : 0 ≤ l ∧ l < 18446744073709551616) (hl' : 0 ≤ l' ∧ l' < 18446744073709551616) :
    (hi h N = hi h' N ∧ hi l (N - 64) = hi l' (N - 64)) ↔ num h l / 2 ^ (128 - N).toNat = num h' l' / 2 ^ (128 - N).toNat := by
  unfold hi
  by_cases c : N ≤ 64
  · rw [if_pos (by omega : N - 64 ≤ 0), if_pos (by omega : N - 64 ≤ 0)]
    have e : (128 - N).toNat = 64 + (64 - N).toNat := by omega
    rw [e, top_hi _ _ hl, top_hi _ _ hl']
    by_cases c0 : N ≤ 0
    · obtain rfl : N = 0 := by omega
      have : (2 : Int) ^ (64 - (0 : Int)).toNat = 18446744073709551616 := by decide
      rw [this]; simp; omega
    · rw [if_neg c0, if_neg c0]
      constructor
      · rintro ⟨a, -⟩; exact Int.eq_of_mul_eq_mul_right (p2n _) a
      · intro a; rw [a]; exact ⟨rfl, rfl⟩
  · rw [if_neg (by omega : ¬ N ≤ 0), if_neg (by omega : ¬ N ≤ 0), if_neg (by omega : ¬ N - 64 ≤ 0), if_neg (by omega : ¬ N - 64 ≤ 0)]
    have e0 : (64 - N).toNat = 0 := by omega
    have e : (64 - (N - 64)).toNat = (128 - N).toNat := by omega
    rw [e0, e, top_lo _ _ _ (by omega : (128 - N).toNat ≤ 64), top_lo _ _ _ (by omega : (128 - N).toNat ≤ 64)]
    have hs : (128 - N).toNat ≤ 64 := by omega
    generalize (128 - N).toNat = s at *
    have b : ∀ x : Int, 0 ≤ x ∧ x < 18446744073709551616 → 0 ≤ x / 2 ^ s ∧ x / 2 ^ s < 2 ^ (64 - s) := by
      intro x hx
      refine ⟨Int.ediv_nonneg hx.1 (Int.le_of_lt (p2 s)), Int.ediv_lt_of_lt_mul (p2 s) ?_⟩
      rw [← Int.pow_add, Nat.sub_add_cancel hs]
      have : (2 : Int) ^ 64 = 18446744073709551616 := by decide
      omega
    have b1 := b l hl; have b2 := b l' hl'
    constructor
    · rintro ⟨a, c⟩
      have a' : h = h' := by simpa using a
      rw [a', Int.eq_of_mul_eq_mul_right (p2n _) c]
    · intro a
      have hq : h = h' := by
        have := congrArg (· / (2 : Int) ^ (64 - s)) a
        simp only [Int.mul_add_ediv_right _ _ (p2n _), Int.ediv_eq_zero_of_lt b1.1 b1.2, Int.ediv_eq_zero_of_lt b2.1 b2.2] at this
        simpa using this
      subst hq
      exact ⟨rfl, by rw [show l / 2 ^ s = l' / 2 ^ s by omega]⟩
/-- bit j of an address, from the left -/
def Bt (A : Int) (j : Nat) : Int := A / 2 ^ (127 - j) % 2
theorem bits_iff (A B : Int) (hA : 0 ≤ A ∧ A < 2 ^ 128) (hB : 0 ≤ B ∧ B < 2 ^ 128) (m : Nat) (hm : m ≤ 128) : (∀ j, j < m → Bt A j = Bt B j) ↔ A / 2 ^ (128 - m) = B / 2 ^ (128 - m) := by
  induction m with
  | zero =>
    rw [Int.ediv_eq_zero_of_lt hA.1 hA.2, Int.ediv_eq_zero_of_lt hB.1 hB.2]
    exact ⟨fun _ => rfl, fun _ j hj => absurd hj (by omega)⟩
  | succ m ih =>
    have e : ∀ X : Int, X / 2 ^ (128 - m) = X / 2 ^ (127 - m) / 2 := by
      intro X
      rw [Int.ediv_ediv_of_nonneg (Int.le_of_lt (p2 _)), show 128 - m = (127 - m) + 1 by omega, Int.pow_succ]
    rw [show 128 - (m + 1) = 127 - m by omega]
    constructor
    · intro a
      have a1 := (ih (by omega)).1 (fun j hj => a j (by omega))
      have a2 := a m (by omega)
      rw [e, e] at a1; unfold Bt at a2
      omega
    · intro a j hj
      by_cases c : j = m
      · subst c; unfold Bt; rw [a]
      · exact (ih (by omega)).2 (by rw [e, e, a]) j (by omega)
theorem bt_hi (h l : Int) (hl : 0 ≤ l ∧ l < 18446744073709551616) (j : Nat) (hj : j < 64) : h / 2 ^ (63 - j) % 2 = Bt (num h l) j := by
  unfold Bt; rw [show 127 - j = 64 + (63 - j) by omega, top_hi _ _ hl]
theorem bt_lo (h l : Int) (j : Nat) (hj : 64 ≤ j) (hj' : j < 128) : l / 2 ^ (127 - j) % 2 = Bt (num h l) j := by
  unfold Bt; rw [top_lo _ _ _ (by omega), show 64 - (127 - j) = (j - 64) + 1 by omega, Int.pow_succ, ← Int.mul_assoc]
  omega
theorem shrink (A B : Int) (s n : Nat) (h : s ≤ n) (e : A / 2 ^ s = B / 2 ^ s) : A / 2 ^ n = B / 2 ^ n := by
  obtain ⟨d, rfl⟩ := Nat.exists_eq_add_of_le h
  rw [Int.pow_add, ← Int.ediv_ediv_of_nonneg (Int.le_of_lt (p2 _)), ← Int.ediv_ediv_of_nonneg (Int.le_of_lt (p2 _)), e]
end Go.Proofs.Ytlnnghbbjbimoaa.A128
