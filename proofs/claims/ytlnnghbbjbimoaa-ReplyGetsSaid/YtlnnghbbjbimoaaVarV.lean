/- A number's code, read and written: the plain values. -/
import Derived.Test.YtlnnghbbjbimoaaReaderAll
import Derived.Test.YtlnnghbbjbimoaaBe
import Derived.Test.YtlnnghbbjbimoaaNum
import Derived.Test.YtlnnghbbjbimoaaOctPut
namespace Go.Proofs.Ytlnnghbbjbimoaa.VarV
open Go Go.RowKit Go.Proofs.Ytlnnghbbjbimoaa.Reader Go.Proofs.Ytlnnghbbjbimoaa.PNum Go.Proofs.Ytlnnghbbjbimoaa.Num Go.Proofs.Ytlnnghbbjbimoaa.OctPut Go.Proofs.YtlnnghbbjbimoaaW.PrintWords Go.Proofs.YtlnnghbbjbimoaaW.PrintLast Go.Proofs.YtlnnghbbjbimoaaW.PrintMore
set_option linter.unusedVariables false
set_option linter.unusedSimpArgs false
/-- d bytes from j on, the lowest first: the number, and the list -/
def fw (f : Nat → Int) : Nat → Nat → Int
  | _, 0 => 0
  | j, d + 1 => f j % 128 + 128 * fw f (j + 1) d
def bl (f : Nat → Int) : Nat → Nat → List Int
  | _, 0 => []
  | j, d + 1 => f j :: bl f (j + 1) d
theorem bl_length (f : Nat → Int) : ∀ d j, (bl f j d).length = d
  | 0, _ => rfl
  | d + 1, j => by simp [bl, bl_length f d]
theorem vl_fw (q : ByteArray) (f : Nat → Int) (n : Nat) (hf : ∀ i, i < n → bt q (i : Int) = f i) : ∀ (i : Nat), i ≤ n → vl q i (fw f i (n - i)) = fw f 0 n
  | 0, _ => rfl
  | i + 1, h => by
    have ih := vl_fw q f n hf i (by omega)
    have e : n - i = (n - (i + 1)) + 1 := by omega
    rw [e] at ih
    simp only [fw] at ih
    simp only [vl]
    rw [hf i (by omega), show fw f (i + 1) (n - (i + 1)) * 128 + f i % 128 = f i % 128 + 128 * fw f (i + 1) (n - (i + 1)) from by omega]
    exact ih
theorem fw_pos (f : Nat → Int) : ∀ (d j : Nat), (∀ i, 0 ≤ f i) → 0 < f (j + d) → f (j + d) < 128 → 0 < fw f j (d + 1)
  | 0, j, h0, h1, h2 => by simp only [fw, Nat.add_zero] at *; omega
  | d + 1, j, h0, h1, h2 => by
    have := fw_pos f d (j + 1) h0 (by rw [show j + 1 + d = j + (d + 1) from by omega]; exact h1) (by rw [show j + 1 + d = j + (d + 1) from by omega]; exact h2)
    have := h0 j
    simp only [fw] at *
    omega
theorem vb_fw (f : Nat → Int) (h0 : ∀ i, 0 ≤ f i ∧ f i ≤ 255) : ∀ (d j k : Nat), d ≤ k → (∀ i, i < d → 128 ≤ f (j + i)) → f (j + d) < 128 → (d = 0 ∨ 0 < f (j + d)) → vb k (fw f j (d + 1)) = bl f j (d + 1)
  | 0, j, k, hk, hg, hl, hp => by
    have := h0 j
    simp only [Nat.add_zero] at hl
    simp only [fw, bl]
    rw [show f j % 128 + 128 * 0 = f j from by omega, vb_small k hl]
  | d + 1, j, k, hk, hg, hl, hp => by
    have hl' : f (j + 1 + d) < 128 := by rw [show j + 1 + d = j + (d + 1) from by omega]; exact hl
    have hp' : 0 < f (j + 1 + d) := by rw [show j + 1 + d = j + (d + 1) from by omega]; omega
    have hF := fw_pos f d (j + 1) (fun i => (h0 i).1) hp' hl'
    have hb := hg 0 (by omega)
    have hb2 := h0 j
    simp only [Nat.add_zero] at hb
    obtain ⟨k, rfl⟩ : ∃ m, k = m + 1 := ⟨k - 1, by omega⟩
    have ih := vb_fw f h0 d (j + 1) k (by omega) (fun i hi => by have := hg (i + 1) (by omega); rw [show j + 1 + i = j + (i + 1) from by omega]; exact this) hl' (.inr hp')
    rw [show fw f j (d + 1 + 1) = f j % 128 + 128 * fw f (j + 1) (d + 1) from rfl, show bl f j (d + 1 + 1) = f j :: bl f (j + 1) (d + 1) from rfl, ← ih]
    rw [vb_big k (by omega)]
    congr 1
    · omega
    · congr 1; omega
theorem spn_spec (s : ByteArray) (a : Int) : ∀ (d : Nat) (k : Int), 0 < spn s a d k → 0 ≤ k → (∀ i : Int, k ≤ i → i < spn s a d k - 1 → 128 ≤ bt s (a + i)) ∧ bt s (a + (spn s a d k - 1)) < 128
  | 0, k, h, _ => by simp [spn] at h
  | d + 1, k, h, h0 => by
    simp only [spn] at h ⊢
    by_cases h1 : (s.size : Int) - a ≤ k
    · rw [if_pos h1] at h; omega
    · rw [if_neg h1] at h ⊢
      by_cases h2 : bt s (a + k) < 128
      · rw [if_pos h2]; exact ⟨fun i hi hj => by omega, by rw [show k + 1 - 1 = k from by omega]; exact h2⟩
      · rw [if_neg h2] at h ⊢
        have ih := spn_spec s a d (k + 1) h (by omega)
        refine ⟨fun i hi hj => ?_, ih.2⟩
        by_cases e : i = k
        · subst e; omega
        · exact ih.1 i (by omega) hj
theorem zig_uz (x : Int) (h : 0 ≤ x ∧ x < 18446744073709551616) : zig (uz x) = x ∧ -9223372036854775808 ≤ uz x ∧ uz x ≤ 9223372036854775807 := by
  unfold uz
  by_cases e : x % 2 = 0
  · rw [if_pos e]; unfold zig; rw [if_pos (by omega)]; omega
  · rw [if_neg e]; unfold zig; rw [if_neg (by omega)]; omega
theorem str_bl (s : ByteArray) : ∀ (d a : Nat), a + d ≤ s.size → strOfNums (bl (fun i => bt s (i : Int)) a d) = s.extract a (a + d)
  | 0, a, h => by simp only [bl]; rw [str_nil]; apply ByteArray.ext; simp
  | d + 1, a, h => by
    have ih := str_bl s d (a + 1) (by omega)
    have e1 := ext_one s a 0 (by omega)
    simp only [bl]
    rw [show ∀ (x : Int) (l : List Int), x :: l = [x] ++ l from fun _ _ => rfl, str_append, ih]
    have e2 : strOfNums [bt s (a : Int)] = s.extract a (a + 1) := by
      have : s.extract a (a + 0) = ⟨#[]⟩ := by apply ByteArray.ext; simp
      rw [this] at e1
      rw [← show (⟨#[]⟩ : ByteArray) ++ strOfNums [bt s ((a : Int) + (0 : Nat))] = s.extract a (a + 0 + 1) from e1]
      apply ByteArray.ext
      simp
    rw [e2]
    apply ByteArray.ext
    simp only [ByteArray.data_append, ByteArray.data_extract]
    rw [Array.extract_append_extract]
    congr 1 <;> omega
/-- where a number's code stands: its value is its bytes' number, within the ints, and written again it is these bytes -/
theorem var_v (s : ByteArray) (a : Nat) (h : vE s a = 0) (ha : (a : Int) ≤ s.size) : ∃ n : Nat, vN s a = n ∧ 0 < n ∧ n ≤ 10 ∧ a + n ≤ s.size ∧ vV s a = uz (fw (fun i => bt s ((a : Int) + i)) 0 n) ∧ (0 ≤ fw (fun i => bt s ((a : Int) + i)) 0 n ∧ fw (fun i => bt s ((a : Int) + i)) 0 n < 18446744073709551616) ∧ strOfNums (vb 9 (zig (vV s a))) = s.extract a (a + n) ∧ -9223372036854775808 ≤ vV s a ∧ vV s a ≤ 9223372036854775807 := by
  unfold vE at h
  have hp : 0 < vN s a := by
    by_cases h1 : vN s a = -5
    · rw [if_pos h1] at h; omega
    · rw [if_neg h1] at h
      by_cases h2 : vN s a ≤ 0
      · rw [if_pos h2] at h; omega
      · omega
  rw [if_neg (by omega), if_neg (by omega)] at h
  have hc : ¬ ((vN s a = 10 ∧ 2 ≤ bt s (a + vN s a - 1)) ∨ (1 < vN s a ∧ bt s (a + vN s a - 1) = 0)) := fun hc => by rw [if_pos hc] at h; omega
  obtain ⟨l1, l2, l3⟩ := spn_le s a 10 0 (by omega) hp
  obtain ⟨g1, g2⟩ := spn_spec s a 10 0 hp (by omega)
  have hN : spn s a 10 0 = vN s a := rfl
  rw [hN] at l1 l2 l3 g1 g2
  obtain ⟨n, hn⟩ := Int.eq_ofNat_of_zero_le (show 0 ≤ vN s a by omega)
  rw [hn] at hc l1 l2 l3 g1 g2 hp
  have hz : (s.extract a (a + n)).size = n := by rw [ByteArray.size_extract]; omega
  have hq : ∀ i, i < n → bt (s.extract a (a + n)) (i : Int) = bt s ((a : Int) + i) := fun i hi => bt_ext s a (a + n) i (by omega) (by omega)
  have hV : vV s a = uz (fw (fun i => bt s ((a : Int) + i)) 0 n) := by
    unfold vV
    rw [hn, show ((a : Int)).toNat = a from by omega, show ((a : Int) + (n : Int)).toNat = a + n from by omega, show ((n : Int)).toNat = n from by omega]
    have := vl_fw (s.extract a (a + n)) (fun i => bt s ((a : Int) + i)) n hq n (Nat.le_refl _)
    rw [Nat.sub_self] at this
    simp only [fw] at this
    rw [this]
  have hr : 0 ≤ fw (fun i => bt s ((a : Int) + i)) 0 n ∧ fw (fun i => bt s ((a : Int) + i)) 0 n < 18446744073709551616 := by
    have hf := fits_vl _ n 0 (fits_q (s.extract a (a + n)) n (by omega) (by
      by_cases h10 : n < 10
      · exact .inl h10
      · have e : n = 10 := by omega
        right
        rw [hq 9 (by omega)]
        have := bt_r s ((a : Int) + 9)
        have h9 : (a : Int) + (n : Int) - 1 = (a : Int) + 9 := by omega
        rw [h9] at hc
        show bt s ((a : Int) + 9) < 2
        omega))
    have := vl_fw (s.extract a (a + n)) (fun i => bt s ((a : Int) + i)) n hq n (Nat.le_refl _)
    rw [Nat.sub_self] at this
    simp only [fw] at this
    rw [this] at hf
    exact hf
  obtain ⟨z1, z2, z3⟩ := zig_uz _ hr
  refine ⟨n, hn, by omega, by omega, by omega, hV, hr, ?_, by rw [hV]; exact z2, by rw [hV]; exact z3⟩
  rw [hV, z1]
  obtain ⟨m, rfl⟩ : ∃ m, n = m + 1 := ⟨n - 1, by omega⟩
  have hb := fun i => bt_r s i
  have hlast : (a : Int) + ((m + 1 : Nat) : Int) - 1 = (a : Int) + (m : Nat) := by omega
  rw [hlast] at hc
  rw [vb_fw (fun i => bt s ((a : Int) + i)) (fun i => bt_r s _) m 0 9 (by omega) (fun i hi => by have := g1 (i : Int) (by omega) (by omega); simpa using this) (by have := g2; rw [show (a : Int) + (((m + 1 : Nat) : Int) - 1) = (a : Int) + (m : Nat) from by omega] at this; simpa using this) (by
    have := bt_r s ((a : Int) + (m : Nat))
    rcases Nat.eq_zero_or_pos m with h0 | h0
    · exact .inl h0
    · right; simp only [Nat.zero_add]; omega)]
  have e : ∀ (d j : Nat), bl (fun i => bt s ((a : Int) + i)) j d = bl (fun i => bt s (i : Int)) (a + j) d := by
    intro d
    induction d with
    | zero => intro j; rfl
    | succ d ih => intro j; simp only [bl]; rw [ih (j + 1)]; congr 1
  rw [e, Nat.add_zero]
  exact str_bl s (m + 1) a (by omega)
end Go.Proofs.Ytlnnghbbjbimoaa.VarV
