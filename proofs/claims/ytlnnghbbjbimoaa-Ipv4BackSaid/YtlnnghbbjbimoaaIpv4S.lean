/- The plain values of ipv4's Sum and Make, and of the document's. -/
import Derived.Test.YtlnnghbbjbimoaaBe
import Derived.Test.YtlnnghbbjbimoaaPVx1
import Derived.Test.YtlnnghbbjbimoaaPVx4
namespace Go.Proofs.Ytlnnghbbjbimoaa.Ipv4S
open Go Go.RowKit Go.Proofs.Ytlnnghbbjbimoaa.PV Go.Proofs.Ytlnnghbbjbimoaa.PNum Go.Proofs.YtlnnghbbjbimoaaW.PrintWords Go.Proofs.YtlnnghbbjbimoaaW.PrintLast Go.Proofs.YtlnnghbbjbimoaaW.PrintMore
set_option linter.unusedVariables false
set_option linter.unusedSimpArgs false

theorem and_low (k : IntKind) (x : Int) (s : Nat) (hs : s ≤ 63) (hk : k = .i64 ∨ k = .u64) (hw : ∀ y : Int, 0 ≤ y → y < 9223372036854775808 → k.wrap y = y) : Go.bits .and k x (2 ^ s - 1) = x % 18446744073709551616 % 2 ^ s := by
  have e1 : ((2 : Int) ^ s - 1) = ((2 ^ s - 1 : Nat) : Int) := by
    rw [Int.ofNat_sub (Nat.one_le_two_pow)]; simp
  have hp : 2 ^ s ≤ 2 ^ 63 := Nat.pow_le_pow_right (by decide) hs
  have hp0 : 0 < 2 ^ s := Nat.two_pow_pos s
  have e2 : ∀ y : Int, (BitVec.ofInt 64 x &&& BitVec.ofInt 64 ((2 ^ s - 1 : Nat) : Int)).toNat = (x % 18446744073709551616).toNat % 2 ^ s := by
    intro _
    rw [BitVec.ofInt_natCast, BitVec.toNat_and, BitVec.toNat_ofNat, BitVec.toNat_ofInt, Nat.mod_eq_of_lt (by simp only [Nat.reducePow] at hp ⊢; omega), Nat.and_two_pow_sub_one_eq_mod]
    rfl
  have e3 : Go.bits .and k x ((2 ^ s - 1 : Nat) : Int) = k.wrap (((x % 18446744073709551616).toNat % 2 ^ s : Nat) : Int) := by
    rw [← e2 0]; rcases hk with rfl | rfl <;> rfl
  have hm : (x % 18446744073709551616).toNat % 2 ^ s < 2 ^ s := Nat.mod_lt _ hp0
  rw [e1, e3, hw _ (by omega) (by simp only [Nat.reducePow] at hp; omega), Int.natCast_emod, Int.toNat_of_nonneg (by omega)]
  simp
theorem wi (y : Int) (h0 : 0 ≤ y) (h1 : y < 9223372036854775808) : IntKind.i64.wrap y = y := by
  simp [IntKind.wrap, IntKind.bits, IntKind.signed]; omega
theorem wu (y : Int) (h0 : 0 ≤ y) (h1 : y < 9223372036854775808) : IntKind.u64.wrap y = y := by
  simp [IntKind.wrap, IntKind.bits, IntKind.signed]; omega
theorem and13 (x : Int) : Go.bits .and .i64 x 8191 = x % 8192 := by
  have := and_low .i64 x 13 (by decide) (.inl rfl) wi
  rw [show (2 : Int) ^ 13 - 1 = 8191 by decide, show (2 : Int) ^ 13 = 8192 by decide] at this
  rw [this]; omega
theorem and16 (x : Int) : Go.bits .and .i64 x 65535 = x % 65536 := by
  have := and_low .i64 x 16 (by decide) (.inl rfl) wi
  rw [show (2 : Int) ^ 16 - 1 = 65535 by decide, show (2 : Int) ^ 16 = 65536 by decide] at this
  rw [this]; omega
theorem and32 (x : Int) : Go.bits .and .u64 x 4294967295 = x % 4294967296 := by
  have := and_low .u64 x 32 (by decide) (.inr rfl) wu
  rw [show (2 : Int) ^ 32 - 1 = 4294967295 by decide, show (2 : Int) ^ 32 = 4294967296 by decide] at this
  rw [this]; omega
theorem or13 (f : Int) (h : 0 ≤ f ∧ f < 8192) : Go.bits .or .i64 f 8192 = f + 8192 := by
  obtain ⟨x, rfl⟩ := Int.eq_ofNat_of_zero_le h.1
  have hx : x < 8192 := by omega
  have e : (BitVec.ofInt 64 (x : Int) ||| BitVec.ofInt 64 ((8192 : Nat) : Int)).toNat = x + 8192 := by
    rw [BitVec.ofInt_natCast, BitVec.ofInt_natCast, BitVec.toNat_or, BitVec.toNat_ofNat, BitVec.toNat_ofNat, Nat.mod_eq_of_lt (by simp only [Nat.reducePow]; omega), Nat.mod_eq_of_lt (by decide), Nat.or_comm]
    have := Nat.two_pow_add_eq_or_of_lt (i := 13) (b := x) (by simpa using hx) 1
    simp only [Nat.reducePow, Nat.mul_one] at this
    omega
  have e3 : Go.bits .or .i64 (x : Int) 8192 = IntKind.i64.wrap (((BitVec.ofInt 64 (x : Int) ||| BitVec.ofInt 64 ((8192 : Nat) : Int)).toNat : Nat) : Int) := rfl
  rw [e3, e, wi _ (by omega) (by omega)]; omega
/-- the sum of the words of some bytes -/
def ws : List Int → Int
  | [] => 0
  | [a] => 256 * a
  | a :: b :: l => 256 * a + b + ws l
/-- a sum, folded to 16 bits -/
def fd (n : Int) : Int := if n = 0 then 0 else (n - 1) % 65535 + 1
def By (xs : List Int) : Prop := ∀ x ∈ xs, 0 ≤ x ∧ x ≤ 255
theorem ws_range (n : Nat) : ∀ xs : List Int, xs.length ≤ n → By xs → 0 ≤ ws xs ∧ ws xs ≤ 65535 * xs.length := by
  induction n using Nat.strongRecOn with
  | ind n ih =>
    intro xs hn h
    match xs with
    | [] => simp [ws]
    | [a] => have := h a (by simp); simp [ws]; omega
    | a :: b :: l =>
      have h1 := h a (by simp); have h2 := h b (by simp)
      have := ih l.length (by simp at hn; omega) l (Nat.le_refl _) (fun x hx => h x (by simp [hx]))
      simp [ws]; omega
theorem bt_str (xs : List Int) (h : By xs) (i : Nat) (hi : i < xs.length) : bt (strOfNums xs) (i : Int) = xs[i] := by
  have hx := h _ (List.getElem_mem hi)
  unfold bt
  rw [dif_pos (by rw [strOfNums_size]; simpa using hi)]
  have : (strOfNums xs)[((i : Int)).toNat]'(by rw [strOfNums_size]; simpa using hi) = UInt8.ofNat (xs[i]).toNat := by
    simp [strOfNums, ByteArray.getElem_eq_getElem_data]
  rw [this, UInt8.toNat_ofNat']
  omega
theorem ws_two (xs : List Int) (i : Nat) (hi : i < xs.length) : ws (xs.drop i) = 256 * xs[i] + (if h : i + 1 < xs.length then xs[i + 1] else 0) + ws (xs.drop (i + 2)) := by
  rw [List.drop_eq_getElem_cons hi]
  by_cases h : i + 1 < xs.length
  · rw [dif_pos h, List.drop_eq_getElem_cons h]; simp [ws]
  · rw [dif_neg h, List.drop_of_length_le (by omega : xs.length ≤ i + 1), List.drop_of_length_le (by omega : xs.length ≤ i + 2)]; simp [ws]
theorem fold_l (d : Nat) : ∀ (k : Nat) (n : Int), 0 ≤ n → n ≤ 9000000000000000000 → n.toNat ≤ d → d < k → ipv4_Sum.l1 k n = some (65535 - fd n) := by
  induction d with
  | zero =>
    intro k n h0 h1 hd hk
    obtain ⟨k, rfl⟩ : ∃ m, k = m + 1 := ⟨k - 1, by omega⟩
    obtain rfl : n = 0 := by omega
    simp only [ipv4_Sum.l1]; rw [if_neg (by omega), owr (by omega)]; rfl
  | succ d ih =>
    intro k n h0 h1 hd hk
    obtain ⟨k, rfl⟩ : ∃ m, k = m + 1 := ⟨k - 1, by omega⟩
    simp only [ipv4_Sum.l1]
    by_cases c : n > 65535
    · rw [if_pos c, and16, owr (by omega), ih k _ (by omega) (by omega) (by omega) (by omega)]
      unfold fd; rw [if_neg (by omega), if_neg (by omega)]; congr 2; omega
    · rw [if_neg c, owr (by omega)]
      unfold fd; congr 2
      split <;> omega
theorem sum_l (xs : List Int) (hb : By xs) (hl : xs.length ≤ 100000000) (d : Nat) : ∀ (k : Nat) (n : Int) (i : Nat), 0 ≤ n → n + 65535 * d ≤ 9000000000000 → xs.length ≤ i + d → i ≤ xs.length + 1 → d + (n + 65535 * d).toNat + 1 < k → ipv4_Sum.l0 k (strOfNums xs) n i = some (65535 - fd (n + ws (xs.drop i))) := by
  induction d with
  | zero =>
    intro k n i h0 h1 h2 hi hk
    obtain ⟨k, rfl⟩ : ∃ m, k = m + 1 := ⟨k - 1, by omega⟩
    simp only [ipv4_Sum.l0]
    rw [if_neg (by rw [strOfNums_size]; omega), List.drop_of_length_le (by omega)]
    rw [fold_l n.toNat k n h0 (by omega) (Nat.le_refl _) (by omega)]; simp [ws]
  | succ d ih =>
    intro k n i h0 h1 h2 hi hk
    obtain ⟨k, rfl⟩ : ∃ m, k = m + 1 := ⟨k - 1, by omega⟩
    simp only [ipv4_Sum.l0]
    by_cases c : i < xs.length
    · have hx := hb _ (List.getElem_mem c)
      rw [if_pos (by rw [strOfNums_size]; omega), if_pos (by omega), bt_str xs hb i c, ws_two xs i c, show wrap64 ((i : Int) + 1) = ((i + 1 : Nat) : Int) by unfold wrap64; omega, show wrap64 ((i : Int) + 2) = ((i + 2 : Nat) : Int) by unfold wrap64; omega]
      by_cases c1 : i + 1 < xs.length
      · have hy := hb _ (List.getElem_mem c1)
        rw [if_pos (by rw [strOfNums_size]; omega), if_pos (by omega), bt_str xs hb (i + 1) c1, dif_pos c1]
        rw [show wrap64 (wrap64 (n + wrap64 (wrap64 xs[i] * 256)) + wrap64 xs[i + 1]) = n + (256 * xs[i] + xs[i + 1]) by unfold wrap64; omega]
        rw [ih k _ (i + 2) (by omega) (by omega) (by omega) (by omega) (by omega), Int.add_assoc]
      · rw [if_neg (by rw [strOfNums_size]; omega), dif_neg c1]
        rw [show wrap64 (n + wrap64 (wrap64 xs[i] * 256)) = n + (256 * xs[i] + 0) by unfold wrap64; omega]
        rw [ih k _ (i + 2) (by omega) (by omega) (by omega) (by omega) (by omega), Int.add_assoc]
    · rw [if_neg (by rw [strOfNums_size]; omega), List.drop_of_length_le (by omega)]
      rw [fold_l n.toNat k n h0 (by omega) (Nat.le_refl _) (by omega)]; simp [ws]
/-- Sum, for any bytes -/
theorem sum_v (k : Nat) (xs : List Int) (hb : By xs) (hl : xs.length ≤ 1000) (hk : 70000000 ≤ k) : ipv4_Sum.f k (strOfNums xs) = some (65535 - fd (ws xs)) := by
  unfold ipv4_Sum.f
  have := sum_l xs hb (by omega) xs.length k 0 0 (by omega) (by omega) (by omega) (by omega) (by omega)
  simpa using this
theorem two_v (k : Nat) (xs : List Int) (hb : By xs) (hl : xs.length ≤ 1000) (i : Nat) (hi : i < xs.length) (hk : 3 ≤ k) : flashlockref11_Two.f k (strOfNums xs) i = some (256 * xs[i] + (if h : i + 1 < xs.length then xs[i + 1] else 0)) := by
  obtain ⟨k, rfl⟩ : ∃ m, k = m + 1 + 1 + 1 := ⟨k - 3, by omega⟩
  have hx := hb _ (List.getElem_mem hi)
  unfold flashlockref11_Two.f
  have e2 : wrap64 ((i : Int) + 2) = (i : Int) + 2 := by unfold wrap64; omega
  have e1 : wrap64 ((i : Int) + 1) = ((i + 1 : Nat) : Int) := by unfold wrap64; omega
  have e3 : wrap64 (((i + 1 : Nat) : Int) + 1) = ((i + 2 : Nat) : Int) := by unfold wrap64; omega
  simp only [flashlockref11_Two.l0, e2]
  rw [if_pos (by omega), if_pos (by rw [strOfNums_size]; omega), if_pos (by omega), bt_str xs hb i hi, e1, show wrap64 (wrap64 (256 * 0) + wrap64 xs[i]) = xs[i] by unfold wrap64; omega, e3, if_pos (by omega)]
  by_cases c1 : i + 1 < xs.length
  · have hy := hb _ (List.getElem_mem c1)
    rw [dif_pos c1, if_pos (by rw [strOfNums_size]; omega), if_pos (by omega), bt_str xs hb (i + 1) c1, if_neg (by omega), show wrap64 (wrap64 (256 * xs[i]) + wrap64 xs[i + 1]) = 256 * xs[i] + xs[i + 1] by unfold wrap64; omega]
  · rw [dif_neg c1, if_neg (by rw [strOfNums_size]; omega), if_neg (by omega), show wrap64 (256 * xs[i]) = 256 * xs[i] + 0 by unfold wrap64; omega]
theorem fd_range (n : Int) : 0 ≤ fd n ∧ fd n ≤ 65535 := by unfold fd; split <;> omega
theorem fd_step (n w : Int) (hn : 0 ≤ n) (hw : 0 ≤ w ∧ w ≤ 65535) : (if fd n + w > 65535 then fd n + w - 65535 else fd n + w) = fd (n + w) := by
  unfold fd; (repeat' split) <;> omega
theorem rsum_l (xs : List Int) (hb : By xs) (hl : xs.length ≤ 1000) (d : Nat) : ∀ (k : Nat) (n : Int) (i : Nat), 0 ≤ n → xs.length ≤ i + d → i ≤ xs.length + 1 → d + 4 < k → flashlockref11_Sum.l0 k (strOfNums xs) (fd n) i = some (65535 - fd (n + ws (xs.drop i))) := by
  induction d with
  | zero =>
    intro k n i h0 h2 hi hk
    obtain ⟨k, rfl⟩ : ∃ m, k = m + 1 := ⟨k - 1, by omega⟩
    have hr := fd_range n
    simp only [flashlockref11_Sum.l0]
    rw [if_neg (by rw [strOfNums_size]; omega), List.drop_of_length_le (by omega), owr (by omega)]; simp [ws]
  | succ d ih =>
    intro k n i h0 h2 hi hk
    obtain ⟨k, rfl⟩ : ∃ m, k = m + 1 := ⟨k - 1, by omega⟩
    have hr := fd_range n
    simp only [flashlockref11_Sum.l0]
    by_cases c : i < xs.length
    · have hx := hb _ (List.getElem_mem c)
      have hw : 0 ≤ 256 * xs[i] + (if h : i + 1 < xs.length then xs[i + 1] else 0) ∧ 256 * xs[i] + (if h : i + 1 < xs.length then xs[i + 1] else 0) ≤ 65535 := by
        by_cases c1 : i + 1 < xs.length
        · have hy := hb _ (List.getElem_mem c1); rw [dif_pos c1]; omega
        · rw [dif_neg c1]; omega
      rw [if_pos (by rw [strOfNums_size]; omega), two_v k xs hb hl i c (by omega), Option.bind_some, ws_two xs i c, show wrap64 ((i : Int) + 2) = ((i + 2 : Nat) : Int) by unfold wrap64; omega]
      generalize (256 * xs[i] + (if h : i + 1 < xs.length then xs[i + 1] else 0)) = q at hw ⊢
      have hs := fd_step n q h0 hw
      rw [owr (x := fd n + q) (by omega)]
      by_cases c2 : fd n + q > 65535
      · rw [if_pos c2] at hs ⊢
        rw [owr (by omega), hs, ih k (n + q) (i + 2) (by omega) (by omega) (by omega) (by omega), Int.add_assoc]
      · rw [if_neg c2] at hs ⊢
        rw [hs, ih k (n + q) (i + 2) (by omega) (by omega) (by omega) (by omega), Int.add_assoc]
    · rw [if_neg (by rw [strOfNums_size]; omega), List.drop_of_length_le (by omega), owr (by omega)]; simp [ws]
theorem rsum_v (k : Nat) (xs : List Int) (hb : By xs) (hl : xs.length ≤ 1000) (hk : 2000 ≤ k) : flashlockref11_Sum.f k (strOfNums xs) = some (65535 - fd (ws xs)) := by
  unfold flashlockref11_Sum.f
  have := rsum_l xs hb hl xs.length k 0 0 (by omega) (by omega) (by omega) (by omega)
  simpa [fd] using this
end Go.Proofs.Ytlnnghbbjbimoaa.Ipv4S
