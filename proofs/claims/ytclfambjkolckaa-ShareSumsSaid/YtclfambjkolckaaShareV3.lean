/- To the nearest whole number, and as one. -/
import Derived.Test.YtclfambjkolckaaShareV2
namespace Go.Proofs.Ytclfambjkolckaa.Fl
open Go Go.RowKit Ieee
set_option linter.unusedVariables false
set_option linter.unusedSimpArgs false
theorem rhe_mul (n d c : Nat) (hc : 0 < c) : rhe (n * c) (d * c) = rhe n d := by
  unfold rhe
  rw [Nat.mul_div_mul_right _ _ hc, Nat.mul_mod_mul_right]
  congr 1
  have e1 : (d * c < 2 * (n % d * c)) ↔ (d < 2 * (n % d)) := by
    rw [← Nat.mul_assoc]; exact Nat.mul_lt_mul_right hc
  have e2 : (d * c = 2 * (n % d * c)) ↔ (d = 2 * (n % d)) := by
    rw [← Nat.mul_assoc]; exact Nat.mul_left_inj (by omega)
  simp only [e1, e2]
theorem rhe_le (n d k : Nat) (hd : 0 < d) (h : n ≤ k * d) : rhe n d ≤ k := by
  unfold rhe
  have h1 : n / d ≤ k := Nat.div_le_of_le_mul (by rw [Nat.mul_comm]; exact h)
  split
  · rename_i hc
    rcases Nat.lt_or_eq_of_le h1 with h2 | h2
    · omega
    · have h3 := Nat.div_add_mod n d
      rw [h2, Nat.mul_comm] at h3
      omega
  · omega
theorem rhe_exact (n d : Nat) (hd : 0 < d) : rhe (n * d) d = n := by
  unfold rhe
  rw [Nat.mul_div_cancel _ hd, Nat.mul_mod_left, if_neg (by omega)]; rfl
theorem cut_even (s : Bool) (n drop : Nat) : Toward.even.cut s n drop = rhe n (2 ^ drop) := by
  unfold Toward.cut rhe
  rcases Nat.lt_or_ge (n.log2 + 2) drop with h | h
  · rw [Nat.min_eq_right (by omega)]
    have hn : 2 * n < 2 ^ (n.log2 + 2) := by
      have : n < 2 ^ (n.log2 + 1) := Nat.lt_log2_self
      rw [Nat.pow_succ]; omega
    have hd : 2 ^ (n.log2 + 2) ≤ 2 ^ drop := Nat.pow_le_pow_right (by omega) (by omega)
    simp only [Nat.one_shiftLeft]
    rw [Nat.div_eq_of_lt (by omega), Nat.mod_eq_of_lt (by omega), Nat.div_eq_of_lt (by omega), Nat.mod_eq_of_lt (show n < 2 ^ drop by omega), if_neg (by omega), decide_eq_false (by omega), show (2 ^ (n.log2 + 2) == 2 * n) = false from beq_eq_false_iff_ne.2 (by omega)]
    rfl
  · rw [Nat.min_eq_left h]
    simp only [Nat.one_shiftLeft]
    congr 1
    by_cases h1 : 2 ^ drop < 2 * (n % 2 ^ drop)
    · rw [decide_eq_true h1, if_pos (.inl h1)]; rfl
    · rw [decide_eq_false h1]
      by_cases h2 : 2 ^ drop = 2 * (n % 2 ^ drop)
      · by_cases h3 : n / 2 ^ drop % 2 = 1
        · rw [if_pos (.inr ⟨h2, h3⟩), show (2 ^ drop == 2 * (n % 2 ^ drop)) = true from beq_iff_eq.2 h2, show (n / 2 ^ drop % 2 == 1) = true from beq_iff_eq.2 h3]; rfl
        · rw [if_neg (fun h => h.elim h1 (fun h => h3 h.2)), show (2 ^ drop == 2 * (n % 2 ^ drop)) = true from beq_iff_eq.2 h2, show (n / 2 ^ drop % 2 == 1) = false from beq_eq_false_iff_ne.2 h3]; rfl
      · rw [if_neg (fun h => h.elim h1 (fun h => h2 h.1)), show (2 ^ drop == 2 * (n % 2 ^ drop)) = false from beq_eq_false_iff_ne.2 h2]; rfl
theorem cut_zero (s : Bool) (n drop : Nat) : Toward.zero.cut s n drop = n / 2 ^ drop := by
  unfold Toward.cut
  rcases Nat.lt_or_ge (n.log2 + 2) drop with h | h
  · rw [Nat.min_eq_right (by omega)]
    have hn : 2 * n < 2 ^ (n.log2 + 2) := by
      have : n < 2 ^ (n.log2 + 1) := Nat.lt_log2_self
      rw [Nat.pow_succ]; omega
    have hd : 2 ^ (n.log2 + 2) ≤ 2 ^ drop := Nat.pow_le_pow_right (by omega) (by omega)
    simp only [Nat.one_shiftLeft]
    rw [Nat.div_eq_of_lt (by omega), Nat.div_eq_of_lt (by omega)]; rfl
  · rw [Nat.min_eq_left h]
    simp only [Nat.one_shiftLeft]; rfl
theorem y_le {y : Nat} (hy : rg y ≤ 4697254411347427328) : vl (rg y) ≤ 1048576 * K1 := by
  have h5 := vl_at 1043 0 (by omega) (by omega)
  rw [show (1043 * 4503599627370496 + 0 : Nat) = 4697254411347427328 by omega, Nat.add_zero, ← pw_52, ← pw_add] at h5
  have h7 := vl_le hy
  rw [h5] at h7
  have h8 : pw (20 + 1074) = pw 20 * pw 1074 := pw_add 20 1074
  unfold K1
  rw [show 1048576 = pw 20 from rfl, ← h8]; exact h7
/-- the nearest whole number, as a float, and as an int -/
theorem round_val {y : Nat} (hs : ng y = false ∨ rg y = 0) (hy : rg y ≤ 4697254411347427328) :
    ∃ z, FloatKind.f64.encode ((FloatKind.f64.decode y).integral .even) = z ∧ floatToIntVal .f64 z .i64 = some ((rhe (vl (rg y)) K1 : Nat) : Int) := by
  refine ⟨_, rfl, ?_⟩
  have ha : sh (rg y) ≤ 1042 := sh_le (e := 1043) (by omega)
  have hR : rhe (mg (rg y)) (2 ^ (1074 - sh (rg y))) = rhe (vl (rg y)) K1 := by
    have : K1 = 2 ^ (1074 - sh (rg y)) * 2 ^ sh (rg y) := by rw [← Nat.pow_add, Nat.sub_add_cancel (by omega)]; rfl
    rw [this]; exact (rhe_mul _ _ _ (Nat.pow_pos (by omega))).symm
  have hle : rhe (vl (rg y)) K1 ≤ 1048576 := rhe_le _ _ _ K1_pos (y_le hy)
  have e1 : (FloatKind.f64.decode y).integral .even = .number (ng y) (rhe (vl (rg y)) K1) 0 := by
    show (double.read y).integral .even = _
    rw [read_fin (by omega)]
    simp only [Datum.integral]
    rw [show (-1074 + ((sh (rg y) : Nat) : Int)).toNat = 0 by omega, Nat.shiftLeft_zero, cut_even, show (-(-1074 + ((sh (rg y) : Nat) : Int))).toNat = 1074 - sh (rg y) by omega, hR]
  rw [e1]
  generalize hRR : rhe (vl (rg y)) K1 = R at hle
  have hz : ng y = true → R = 0 := fun h => by
    have : rg y = 0 := hs.resolve_left (by rw [h]; decide)
    rw [← hRR, this, vl_zero]
    have := rhe_exact 0 K1 K1_pos
    rwa [Nat.zero_mul] at this
  show floatToIntVal .f64 (double.nearest (ng y) R 0) .i64 = _
  obtain ⟨r, h1, h2, h3⟩ : ∃ r, double.nearest (ng y) R 0 = double.word (ng y) r ∧ vl r = R * pw 1074 ∧ r < 9218868437227405312 := by
    by_cases h0 : R = 0
    · subst h0; exact ⟨0, nearest_zero _ _, by rw [vl_zero, Nat.zero_mul], by omega⟩
    · have := nearest_vl (ng y) R 0 1074 0 h0 (by omega) (by omega) (by omega)
      rwa [Nat.pow_zero, Nat.mul_one] at this
  rw [h1]
  have e2 : (FloatKind.f64.decode (double.word (ng y) r)).toInt .zero = some (R : Int) := by
    show (double.read (double.word (ng y) r)).toInt .zero = _
    rw [read_word _ h3]
    unfold Datum.toInt Datum.integral
    simp only
    have hs2 : sh r ≤ 1074 := by
      refine Nat.le_of_not_lt fun hc => ?_
      have h4 : mg r = 4503599627370496 + r % 4503599627370496 := by unfold sh at hc; unfold mg; rw [if_neg (by omega)]
      have h5 : vl r = mg r * pw (sh r) := rfl
      obtain ⟨d, hd⟩ : ∃ d, sh r = d + 1074 := ⟨sh r - 1074, by omega⟩
      rw [h5, hd, pw_add, ← Nat.mul_assoc] at h2
      have h6 := Nat.eq_of_mul_eq_mul_right (pw_pos 1074) h2
      have h7 : mg r * 1 ≤ mg r * pw d := Nat.mul_le_mul_left _ (pw_pos d)
      omega
    have h5 : mg r = R * 2 ^ (1074 - sh r) := by
      have h6 : vl r = mg r * pw (sh r) := rfl
      have h7 : pw 1074 = pw (1074 - sh r) * pw (sh r) := by rw [← pw_add, Nat.sub_add_cancel hs2]
      rw [h6, h7, ← Nat.mul_assoc] at h2
      exact Nat.eq_of_mul_eq_mul_right (pw_pos _) h2
    rw [show (-1074 + ((sh r : Nat) : Int)).toNat = 0 by omega, Nat.shiftLeft_zero, cut_zero, show (-(-1074 + ((sh r : Nat) : Int))).toNat = 1074 - sh r by omega, h5, Nat.mul_div_cancel _ (Nat.pow_pos (by omega))]
    unfold signed
    rw [Nat.shiftLeft_zero]
    cases hn : ng y
    · rfl
    · rw [hz hn]; rfl
  unfold floatToIntVal
  rw [e2]
  simp only
  rw [if_pos ⟨by have : IntKind.i64.min = -9223372036854775808 := by decide
                 omega, by have : IntKind.i64.max = 9223372036854775807 := by decide
                           omega⟩]
end Go.Proofs.Ytclfambjkolckaa.Fl
