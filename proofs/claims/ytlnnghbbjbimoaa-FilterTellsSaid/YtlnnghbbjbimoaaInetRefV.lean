/- The plain values of the document's way with addresses, bit by bit. -/
import Derived.Test.YtlnnghbbjbimoaaInetV
import Derived.Test.YtlnnghbbjbimoaaPFx11
namespace Go.Proofs.Ytlnnghbbjbimoaa.InetV
open Go Go.RowKit Go.Proofs.Ytlnnghbbjbimoaa.PF Go.Proofs.Ytlnnghbbjbimoaa.A128 Go.Proofs.YtlnnghbbjbimoaaW.PrintWords Go.Proofs.YtlnnghbbjbimoaaW.PrintLast Go.Proofs.YtlnnghbbjbimoaaW.PrintMore
set_option linter.unusedVariables false
set_option linter.unusedSimpArgs false

theorem bit_l (d : Nat) : ∀ (k : Nat) (x i : Int), U64 x → 0 ≤ i → i + d ≤ 63 → d < k → flashlockref10_bit.l0 k x i (i + d) = some (x / 2 ^ d % 2) := by
  induction d with
  | zero =>
    intro k x i hx hi hd hk
    obtain ⟨k, rfl⟩ : ∃ m, k = m + 1 := ⟨k - 1, by omega⟩
    simp only [flashlockref10_bit.l0]; rw [if_neg (by omega)]
    unfold U64 at hx
    rw [Int.tmod_eq_emod_of_nonneg hx.1]; simp
  | succ d ih =>
    intro k x i hx hi hd hk
    obtain ⟨k, rfl⟩ : ∃ m, k = m + 1 := ⟨k - 1, by omega⟩
    simp only [flashlockref10_bit.l0]; rw [if_pos (by omega)]
    unfold U64 at hx
    rw [Int.tdiv_eq_ediv_of_nonneg hx.1, uw _ (by omega), show wrap64 (i + ((d + 1 : Nat) : Int) - 1) = i + d by unfold wrap64; omega, ih k _ i (by unfold U64; omega) hi (by omega) (by omega), Int.ediv_ediv_of_nonneg (by decide), Int.pow_succ, Int.mul_comm]
theorem bit_v (k : Nat) (x : Int) (j : Nat) (hx : U64 x) (hj : j ≤ 63) (hk : 64 ≤ k) : flashlockref10_bit.f k x j = some (x / 2 ^ (63 - j) % 2) := by
  unfold flashlockref10_bit.f
  have := bit_l (63 - j) k x j hx (by omega) (by omega) (by omega)
  rwa [show ((j : Int) + ((63 - j : Nat) : Int)) = 63 by omega] at this
theorem Bit_v (k : Nat) (v h l i : Int) (hv : v = 4 ∨ v = 6) (hh : U64 h) (hl : U64 l) (hi : 0 ≤ i ∧ i < size v) (hk : 64 ≤ k) : flashlockref10_Bit.f k v h l i = some (Bt (num h l) (i + 128 - size v).toNat) := by
  unfold flashlockref10_Bit.f
  rw [size_v, Option.bind_some]
  have hs : size v = 32 ∨ size v = 128 := by rcases hv with rfl | rfl <;> simp [size]
  have e : wrap64 (wrap64 (i + 128) - size v) = ((i + 128 - size v).toNat : Int) := by unfold wrap64; omega
  have hj : (i + 128 - size v).toNat < 128 := by omega
  rw [e]
  generalize (i + 128 - size v).toNat = j at *
  by_cases c : (j : Int) < 64
  · rw [if_pos c, bit_v k h j hh (by omega) hk, Option.bind_some, bt_hi h l hl j (by omega)]
  · rw [if_neg c, show wrap64 ((j : Int) - 64) = ((j - 64 : Nat) : Int) by unfold wrap64; omega, bit_v k l (j - 64) hl (by omega) hk, Option.bind_some, show 63 - (j - 64) = 127 - j by omega, bt_lo h l j (by omega) hj]
open Classical in
/-- the document's way, bit by bit -/
theorem rin_l (v n h l h' l' : Int) (hv : v = 4 ∨ v = 6) (hh : U64 h) (hl : U64 l) (hh' : U64 h') (hl' : U64 l') (hn : n ≤ size v) (d : Nat) : ∀ (k : Nat) (i : Int), 0 ≤ i → n - i ≤ d → d + 64 < k →
    flashlockref15_in.l0 k v n i h l h' l' = some (decide (∀ j : Nat, i ≤ j → j < n → Bt (num h l) ((j : Int) + 128 - size v).toNat = Bt (num h' l') ((j : Int) + 128 - size v).toNat)) := by
  have hs : size v = 32 ∨ size v = 128 := by rcases hv with rfl | rfl <;> simp [size]
  induction d with
  | zero =>
    intro k i h0 h1 hk
    obtain ⟨k, rfl⟩ : ∃ m, k = m + 1 := ⟨k - 1, by omega⟩
    simp only [flashlockref15_in.l0]; rw [if_neg (by omega)]
    congr 1; symm; rw [decide_eq_true_iff]; intro j a b; omega
  | succ d ih =>
    intro k i h0 h1 hk
    obtain ⟨k, rfl⟩ : ∃ m, k = m + 1 := ⟨k - 1, by omega⟩
    simp only [flashlockref15_in.l0]
    by_cases c : i < n
    · rw [if_pos c, Bit_v k v h l i hv hh hl (by omega) (by omega), Option.bind_some, Bit_v k v h' l' i hv hh' hl' (by omega) (by omega), Option.bind_some]
      have ei : ((i.toNat : Nat) : Int) = i := by omega
      by_cases q : Bt (num h l) (i + 128 - size v).toNat = Bt (num h' l') (i + 128 - size v).toNat
      · rw [if_pos q, show wrap64 (i + 1) = i + 1 by unfold wrap64; omega, ih k (i + 1) (by omega) (by omega) (by omega)]
        congr 1; rw [Bool.eq_iff_iff]; simp only [decide_eq_true_eq]
        constructor
        · intro a j hj1 hj2
          by_cases e : (j : Int) = i
          · rw [e]; exact q
          · exact a j (by omega) hj2
        · intro a j hj1 hj2; exact a j (by omega) hj2
      · rw [if_neg q]; congr 1; symm; rw [decide_eq_false_iff_not]; intro a
        exact q (by have := a i.toNat (by omega) (by omega); rwa [ei] at this)
    · rw [if_neg c]; congr 1; symm; rw [decide_eq_true_iff]; intro j a b; omega
theorem rin_v (k : Nat) (v h l h' l' n : Int) (hv : v = 4 ∨ v = 6) (hh : U64 h) (hl : U64 l) (hh' : U64 h') (hl' : U64 l') (hn : 0 ≤ n ∧ n ≤ size v) (hr : rgt v h' l' = true) (hk : 256 ≤ k) : flashlockref15_in.f k v h l h' l' n = some (inn v h l h' l' n) := by
  have hs : size v = 32 ∨ size v = 128 := by rcases hv with rfl | rfl <;> simp [size]
  unfold flashlockref15_in.f inn
  rw [rright_v, Option.bind_some, hr]
  cases hq : rgt v h l
  · rfl
  · rw [if_pos rfl, rin_l v n h l h' l' hv hh hl hh' hl' hn.2 n.toNat k 0 (by omega) (by omega) (by omega)]
    simp only [Bool.true_and]
    congr 1; rw [Bool.eq_iff_iff]; simp only [decide_eq_true_eq]
    have hk : (128 - keep v n).toNat = 128 - (n + 128 - size v).toNat := by
      unfold keep mx mn; rcases hv with rfl | rfl <;> simp [size] at hn ⊢ <;> (repeat' split) <;> omega
    rw [hk, ← bits_iff (num h l) (num h' l') (num_lt h l hh hl) (num_lt h' l' hh' hl') _ (by omega)]
    constructor
    · intro a j hj
      by_cases c : (j : Int) < 128 - size v
      · have h4 : v = 4 := by rcases hv with rfl | rfl <;> simp [size] at c ⊢ <;> omega
        subst h4
        simp [rgt] at hr hq
        simp only [size] at c hj
        have z : ∀ L : Int, 0 ≤ L → L < 4294967296 → Bt (num 0 L) j = 0 := by
          intro L h0 h1
          unfold Bt num
          have : (0 * 18446744073709551616 + L) / 2 ^ (127 - j) = 0 := by
            refine Int.ediv_eq_zero_of_lt (by omega) ?_
            have h2 := p2le 32 (127 - j) (by simp at c; omega)
            have h3 : (2 : Int) ^ 32 = 4294967296 := by decide
            omega
          rw [this]; rfl
        rw [hq.1, hr.1, z _ hl.1 hq.2, z _ hl'.1 hr.2]
      · have := a ((j : Int) - 128 + size v).toNat (by omega) (by omega)
        rwa [show ((((j : Int) - 128 + size v).toNat : Nat) : Int) + 128 - size v = j by omega, Int.toNat_natCast] at this
    · intro a j hj1 hj2
      exact a _ (by omega)
end Go.Proofs.Ytlnnghbbjbimoaa.InetV
