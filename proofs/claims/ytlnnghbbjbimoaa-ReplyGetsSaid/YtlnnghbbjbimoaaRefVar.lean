/- The document's Var: what it answers on the rest of a text. -/
import Derived.Test.YtlnnghbbjbimoaaVarV
import Derived.Test.YtlnnghbbjbimoaaPGx4
import Derived.Test.YtlnnghbbjbimoaaPGx3
namespace Go.Proofs.Ytlnnghbbjbimoaa.RefVar
open Go Go.RowKit Go.Proofs.Ytlnnghbbjbimoaa.PG Go.Proofs.Ytlnnghbbjbimoaa.Reader Go.Proofs.Ytlnnghbbjbimoaa.PNum Go.Proofs.Ytlnnghbbjbimoaa.VarV Go.Proofs.YtlnnghbbjbimoaaW.PrintWords Go.Proofs.YtlnnghbbjbimoaaW.PrintLast Go.Proofs.YtlnnghbbjbimoaaW.PrintMore
set_option linter.unusedVariables false
set_option linter.unusedSimpArgs false
def stp (n r : Int) : Int := if 0 < r then r - 1 else if r = -5 then n else 10
theorem l0_v (s t : ByteArray) (a : Nat) (hz : (t.size : Int) = s.size - a) (hb : ∀ i : Nat, (i : Int) < t.size → bt t (i : Int) = bt s ((a : Int) + i)) (m : Nat) : ∀ (d j K : Nat), j + d = 10 → (j : Int) ≤ t.size → d + m < K → ∃ k', m ≤ k' ∧ flashlockref09_Var.l0 K j t 0 = flashlockref09_Var.j1 k' (stp t.size (spn s a d j)) t 0 := by
  intro d
  induction d with
  | zero =>
    intro j K hj hs hK
    obtain ⟨K, rfl⟩ : ∃ q, K = q + 1 := ⟨K - 1, by omega⟩
    refine ⟨K, by omega, ?_⟩
    have e : (j : Int) = 10 := by omega
    simp only [flashlockref09_Var.l0, spn, stp]
    rw [e]
    by_cases h : (10 : Int) < t.size
    · rw [if_pos h, if_neg (by decide)]; rfl
    · rw [if_neg h]; rfl
  | succ d ih =>
    intro j K hj hs hK
    obtain ⟨K, rfl⟩ : ∃ q, K = q + 1 := ⟨K - 1, by omega⟩
    simp only [flashlockref09_Var.l0, spn]
    by_cases h1 : (s.size : Int) - a ≤ j
    · refine ⟨K, by omega, ?_⟩
      rw [if_pos h1, if_neg (by omega)]
      have : stp t.size (-5) = t.size := rfl
      rw [this, show (j : Int) = t.size from by omega]
    · rw [if_neg h1, if_pos (by omega), if_pos (by omega), if_pos (by omega), hb j (by omega)]
      by_cases h2 : bt s ((a : Int) + j) < 128
      · refine ⟨K, by omega, ?_⟩
        rw [if_pos h2, if_neg (by omega)]
        unfold stp
        rw [if_pos (by omega), show (j : Int) + 1 - 1 = j from by omega]
      · rw [if_neg h2, if_pos (by omega), owr (by omega), show (j : Int) + 1 = ((j + 1 : Nat) : Int) from by omega]
        exact ih (j + 1) K (by omega) (by omega) (by omega)
theorem spn5 (s : ByteArray) (a : Int) : ∀ (d : Nat) (k : Int), 0 ≤ k → spn s a d k = -5 → (s.size : Int) - a < k + d
  | 0, k, _, h => by simp [spn] at h
  | d + 1, k, h0, h => by
    simp only [spn] at h
    by_cases h1 : (s.size : Int) - a ≤ k
    · omega
    · rw [if_neg h1] at h
      by_cases h2 : bt s (a + k) < 128
      · rw [if_pos h2] at h; omega
      · rw [if_neg h2] at h
        have := spn5 s a d (k + 1) (by omega) h
        omega
def lw (f : Nat → Int) : Nat → Int
  | 0 => 0
  | i + 1 => lw f i + 128 ^ i * (f i % 128)
theorem lw_fw (f : Nat → Int) (n : Nat) : ∀ i, i ≤ n → lw f i + 128 ^ i * fw f i (n - i) = fw f 0 n
  | 0, _ => by simp [lw]
  | i + 1, h => by
    have ih := lw_fw f n i (by omega)
    have e : n - i = (n - (i + 1)) + 1 := by omega
    rw [e] at ih
    simp only [fw] at ih
    rw [← ih, lw, Int.pow_succ]
    grind
theorem sg_v (x : Int) (h : 0 ≤ x ∧ x < 18446744073709551616) : flashlockref09_Signed.f x = some (uz x) := by
  unfold flashlockref09_Signed.f uz
  rw [Int.tmod_eq_emod_of_nonneg h.1, Int.tdiv_eq_ediv_of_nonneg h.1, owru (x := x / 2) (by omega)]
  by_cases e : x % 2 = 0
  · rw [if_pos e, if_pos e, owr (by omega)]
  · rw [if_neg e, if_neg e, owr (x := x / 2) (by omega), owr (x := -(x / 2)) (by omega), owr (by omega)]
theorem mod_step (x y b : Int) : ((x % 18446744073709551616 + (y % 18446744073709551616 * b) % 18446744073709551616) % 18446744073709551616) = (x + y * b) % 18446744073709551616 := by
  rw [Int.add_emod (x % _), Int.emod_emod_of_dvd _ (Int.dvd_refl _), Int.emod_emod_of_dvd _ (Int.dvd_refl _), Int.mul_emod (y % _), Int.emod_emod_of_dvd _ (Int.dvd_refl _), ← Int.mul_emod, ← Int.add_emod]
theorem l1_v (t : ByteArray) (f : Nat → Int) (n : Nat) (hn : 0 < n ∧ n ≤ 10 ∧ n ≤ t.size) (hb : ∀ i : Nat, i < n → bt t (i : Int) = f i) (h0 : ∀ i, 0 ≤ f i ∧ f i ≤ 255) : ∀ (d i K : Nat), i + d = n → d < K → flashlockref09_Var.l1 K ((n : Int) - 1) (lw f i % 18446744073709551616) (128 ^ i % 18446744073709551616) i t 0 = flashlockref09_Var.l1 (K - d) ((n : Int) - 1) (lw f n % 18446744073709551616) (128 ^ n % 18446744073709551616) n t 0 := by
  intro d
  induction d with
  | zero => intro i K h hK; rw [show i = n from by omega]; rfl
  | succ d ih =>
    intro i K h hK
    obtain ⟨K, rfl⟩ : ∃ q, K = q + 1 := ⟨K - 1, by omega⟩
    have hf := h0 i
    rw [show K + 1 - (d + 1) = K - d from by omega, ← ih (i + 1) K (by omega) (by omega)]
    simp only [flashlockref09_Var.l1]
    rw [if_pos (by omega), if_pos (by omega), if_pos (by omega), hb i (by omega), Int.tmod_eq_emod_of_nonneg hf.1, owru (x := f i % 128) (by omega), owr (x := (i : Int) + 1) (by omega)]
    congr 1
    · rw [IntKind.wrap_u64, IntKind.wrap_u64, mod_step]; rfl
    · rw [IntKind.wrap_u64, Int.pow_succ, Int.mul_emod, Int.emod_emod_of_dvd _ (Int.dvd_refl _), ← Int.mul_emod]
theorem ext_ext (s : ByteArray) (a n : Nat) (h : a + n ≤ s.size) : (s.extract a s.size).extract n (s.extract a s.size).size = s.extract (a + n) s.size := by
  have e : (s.extract a s.size).size = s.size - a := by rw [ByteArray.size_extract]; omega
  rw [e]
  apply ByteArray.ext
  simp only [ByteArray.data_extract]
  rw [Array.extract_extract]
  congr 1
  omega
theorem refVar_v (k : Nat) (hk : 60 ≤ k) (s : ByteArray) (a : Nat) (ha : a ≤ s.size) (hs : s.size ≤ 1000) : flashlockref09_Var.f k (s.extract a s.size) 0 = some (if vE s a = 0 then (s.extract (a + (vN s a).toNat) s.size, 0, vV s a) else (s.extract a s.size, vE s a, 0)) := by
  generalize ht : s.extract a s.size = t
  have hz : (t.size : Int) = s.size - a := by rw [← ht, ByteArray.size_extract]; omega
  have hb : ∀ i : Nat, (i : Int) < t.size → bt t (i : Int) = bt s ((a : Int) + i) := fun i hi => by rw [← ht]; exact bt_ext s a s.size i (by omega) (by omega)
  unfold flashlockref09_Var.f
  rw [if_pos rfl]
  obtain ⟨k', hk', e⟩ := l0_v s t a hz hb 40 10 0 k (by omega) (by omega) (by omega)
  rw [show ((0 : Nat) : Int) = 0 from rfl] at e
  rw [e]
  obtain ⟨k', rfl⟩ : ∃ q, k' = q + 1 := ⟨k' - 1, by omega⟩
  have hN : spn s a 10 0 = vN s a := rfl
  rw [hN]
  simp only [flashlockref09_Var.j1]
  by_cases hp : 0 < vN s a
  · obtain ⟨l1, l2, l3⟩ := spn_le s a 10 0 (by omega) hp
    have hN' : spn s a 10 0 = vN s a := rfl
    rw [hN'] at l1 l2 l3
    obtain ⟨n, hn⟩ := Int.eq_ofNat_of_zero_le (show 0 ≤ vN s a by omega)
    have hst : stp t.size (vN s a) = (n : Int) - 1 := by unfold stp; rw [if_pos hp, hn]
    rw [hst, if_neg (by omega), if_neg (by omega)]
    have hl := l1_v t (fun i => bt s ((a : Int) + i)) n (by omega) (fun i hi => hb i (by omega)) (fun i => bt_r s _) n 0 k' (by omega) (by omega)
    simp only [lw] at hl
    rw [show (0 : Int) % 18446744073709551616 = 0 from rfl, show (128 : Int) ^ 0 % 18446744073709551616 = 1 from rfl] at hl
    rw [show ((0 : Nat) : Int) = 0 from rfl] at hl
    rw [hl]
    obtain ⟨q, hq⟩ : ∃ q, k' - n = q + 1 := ⟨k' - n - 1, by omega⟩
    rw [hq]
    simp only [flashlockref09_Var.l1]
    have hfw := lw_fw (fun i => bt s ((a : Int) + i)) n n (Nat.le_refl _)
    rw [Nat.sub_self] at hfw
    simp only [fw, Int.mul_zero, Int.add_zero] at hfw
    rw [if_neg (by omega), hfw]
    have hlast : bt t ((n : Int) - 1) = bt s ((a : Int) + n - 1) := by
      have := hb (n - 1) (by omega)
      rw [show ((n - 1 : Nat) : Int) = (n : Int) - 1 from by omega] at this
      rw [this]; congr 1; omega
    have hlr := bt_r s ((a : Int) + n - 1)
    rw [hlast]
    by_cases hv : vE s a = 0
    · obtain ⟨n', hn', v1, v2, v3, v4, v5, v6, v7⟩ := var_v s a hv (by omega)
      have e1 : n' = n := by omega
      subst e1
      rw [if_pos hv, Int.emod_eq_of_lt v5.1 v5.2, sg_v _ v5, ← v4, hn, show ((n' : Int)).toNat = n' from by omega]
      have hc : ¬ ((vN s a = 10 ∧ 2 ≤ bt s (a + vN s a - 1)) ∨ (1 < vN s a ∧ bt s (a + vN s a - 1) = 0)) := fun hc => by
        unfold vE at hv
        rw [if_neg (by omega), if_neg (by omega), if_pos hc] at hv
        omega
      rw [hn] at hc
      have hee : t.extract (wrap64 ((n' : Int) - 1 + 1)).toNat t.size = s.extract (a + n') s.size := by
        rw [owr (by omega), show ((n' : Int) - 1 + 1).toNat = n' from by omega, ← ht, ext_ext s a n' (by omega)]
      rw [owr (x := (n' : Int) - 1 + 1) (by omega)] at hee ⊢
      simp only [Option.bind_some, hee]
      by_cases h9 : (n' : Int) - 1 = 9
      · rw [if_pos h9, if_pos (by omega), if_pos (by omega), if_neg (by omega), if_pos (by omega), if_neg (by omega), if_pos (by omega), if_pos (by omega)]
      · rw [if_neg h9]
        by_cases h1 : (n' : Int) - 1 > 0
        · rw [if_pos h1, if_pos (by omega), if_pos (by omega), if_neg (by omega), if_pos (by omega), if_pos (by omega)]
        · rw [if_neg h1, if_pos (by omega), if_pos (by omega)]
    · rw [if_neg hv]
      have hc : (vN s a = 10 ∧ 2 ≤ bt s (a + vN s a - 1)) ∨ (1 < vN s a ∧ bt s (a + vN s a - 1) = 0) := Classical.byContradiction fun hc => by
        unfold vE at hv
        rw [if_neg (by omega), if_neg (by omega), if_neg hc] at hv
        exact hv rfl
      have hv6 : vE s a = 6 := by
        unfold vE
        rw [if_neg (by omega), if_neg (by omega), if_pos hc]
      rw [hn] at hc
      rw [hv6]
      by_cases h9 : (n : Int) - 1 = 9
      · rw [if_pos h9, if_pos (by omega), if_pos (by omega)]
        by_cases h1 : bt s ((a : Int) + n - 1) > 1
        · rw [if_pos h1]
        · rw [if_neg h1, if_pos (by omega), if_pos (by omega)]
      · rw [if_neg h9, if_pos (by omega), if_pos (by omega), if_pos (by omega), if_pos (by omega)]
  · have hv := spn_neg s a 10 0 (by omega) (show spn s a 10 0 ≤ 0 by unfold vN at hp; omega)
    have hN' : spn s a 10 0 = vN s a := rfl
    rw [hN'] at hv
    rcases hv with hv | hv
    · have he : vE s a = 5 := by unfold vE; rw [if_pos hv]
      have : stp t.size (-5) = t.size := rfl
      have h5 := spn5 s a 10 0 (by omega) (by rw [hN']; exact hv)
      have h10 : ¬ (t.size : Int) = 10 := by omega
      rw [hv, this, if_neg h10, if_pos rfl, he, if_neg (by decide)]
    · have he : vE s a = 6 := by unfold vE; rw [if_neg (by omega), if_pos (by omega)]
      have : stp t.size (-6) = 10 := rfl
      rw [hv, this, if_pos rfl, he, if_neg (by decide)]
end Go.Proofs.Ytlnnghbbjbimoaa.RefVar
