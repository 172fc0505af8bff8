/- Units: what the program and the document come to, in whole numbers. -/
import Derived.Test.YtclfambjkolckaaShareV
import Derived.Test.YtclfambjkolckaaShareM
namespace Go.Proofs.Ytclfambjkolckaa.Fl
open Go Go.RowKit Ieee
open Go.Proofs.Ytclfambjkolckaa.ShareM (kv)
set_option linter.unusedVariables false
set_option linter.unusedSimpArgs false
theorem kv_cl {x : Nat} (h : x < 18446744073709551616) : kv x = cl x := by
  unfold kv cl
  by_cases h0 : 9218868437227405312 < rg x
  · rw [if_pos (t_nan h0), if_pos h0]
  · have hx : rg x ≤ 9218868437227405312 := by omega
    rw [if_neg (by rw [t_num hx]; decide), if_neg h0]
    have e1 : (FloatKind.f64.format.order (x ^^^ 9223372036854775808) 9218868437227405311 == some Ordering.gt) = (ng x && decide (rg x = 9218868437227405312)) := by
      rw [flip_bits h, far_iff (by rw [word_rg _ (rg_lt x)]; exact hx), word_ng _ (rg_lt x), word_rg _ (rg_lt x), Bool.not_not]
    rw [e1, far_iff hx, sign_bit h]
    by_cases h1 : rg x = 9218868437227405312
    · rw [decide_eq_true h1, if_pos h1]
      cases ng x <;> simp
    · rw [decide_eq_false h1, if_neg h1]
      by_cases h2 : rg x = 0
      · rw [o_nul h2, if_pos h2]
        cases ng x <;> simp
      · rw [if_neg h2]
        cases hn : ng x
        · rw [o_pos hx hn h2]; simp
        · rw [o_neg hx hn h2]; simp
/-- a number made a float, as the walk spells it -/
theorem fnear (m : Nat) : FloatKind.f64.nearest (m : Int) = double.nearest false m 0 := by
  unfold FloatKind.nearest FloatKind.encode
  show double.write (.number (decide ((m : Int) < 0)) (m : Int).natAbs 0) = _
  rw [decide_eq_false (by omega)]
  rfl
def K1 : Nat := pw 1074
theorem K1_pos : 0 < K1 := pw_pos 1074
theorem fl_sv {m : Nat} (h : m < 9007199254740992) : ∃ r, FloatKind.f64.nearest (m : Int) = r ∧ rg r = r ∧ ng r = false ∧ vl r = m * K1 ∧ r < 9218868437227405312 := by
  rw [fnear]; exact float_of h
/-- a comparison with a number made a float -/
theorem leq_iff {y : Nat} (hy : rg y ≤ 9218868437227405312) {N : Nat} (hN : sv y = N) {m : Nat} (hm : m < 9007199254740992) :
    (FloatKind.f64.format.order (FloatKind.f64.nearest (m : Int)) y == some Ordering.lt || FloatKind.f64.format.order (FloatKind.f64.nearest (m : Int)) y == some Ordering.eq) = decide (m * K1 ≤ N) := by
  obtain ⟨r, h1, h2, h3, h4, h5⟩ := fl_sv hm
  rw [h1, fo_sv (by omega) hy, sv_of h3 h2, h4, hN]
  rcases Nat.lt_trichotomy (m * K1) N with h | h | h
  · rw [Int.compare_eq_lt.2 (by omega), decide_eq_true (by omega)]; rfl
  · rw [h, cmp_eq, decide_eq_true (by omega)]; rfl
  · rw [Int.compare_eq_gt.2 (by omega), decide_eq_false (by omega)]; rfl
/-- between 0 and 1 (or a nought below) -/
def In01 (x : Nat) : Prop := rg x ≤ 4607182418800017408 ∧ (ng x = false ∨ rg x = 0)
theorem in_sv {x : Nat} (h : In01 x) : sv x = (vl (rg x) : Nat) := by
  rcases h.2 with h2 | h2
  · exact sv_of h2 rfl
  · rw [sv_nul h2, h2, vl_zero]; rfl
theorem sh_le {r e : Nat} (h : r ≤ e * 4503599627370496) : sh r ≤ e - 1 := by unfold sh; omega
theorem up20 {x : Nat} (h : In01 x) : ∃ r, double.mul x 4697254411347427328 = some (double.word (ng x) r) ∧ vl r = vl (rg x) * 1048576 ∧ r ≤ 4697254411347427328 := by
  have hx := h.1
  have hs : sh (rg x) ≤ 1022 := sh_le (e := 1023) (by omega)
  obtain ⟨r, h1, h2, h3⟩ := mul_up (x := x) 20 (by omega) (by omega) (by omega)
  refine ⟨r, h1, h2, ?_⟩
  refine Nat.le_of_not_lt fun hc => ?_
  have h4 := vl_lt hc
  have h5 := vl_at 1043 0 (by omega) (by omega)
  have h6 := vl_at 1023 0 (by omega) (by omega)
  have h7 := vl_le (show rg x ≤ 1023 * 4503599627370496 + 0 by omega)
  rw [h6] at h7
  rw [show (1043 * 4503599627370496 + 0 : Nat) = 4697254411347427328 by omega] at h5
  rw [h5, h2] at h4
  have h8 : pw 1042 = pw 1022 * pw 20 := pw_add 1022 20
  have h9 : pw 20 = 2 ^ 20 := rfl
  rw [show 1043 - 1 = 1042 by omega, h8, h9] at h4
  rw [show 1023 - 1 = 1022 by omega] at h7
  generalize pw 1022 = P at h4 h7
  generalize vl (rg x) = V at h4 h7
  omega
/-- what is behind the point -/
theorem rest_sv {y : Nat} (hs : ng y = false ∨ rg y = 0) (hy : rg y ≤ 4697254411347427328) {q : Nat} (hq : q < 9007199254740992) (h : q * K1 ≤ vl (rg y)) :
    ∃ d, double.sub y (FloatKind.f64.nearest (q : Int)) = some d ∧ rg d ≤ 9218868437227405312 ∧ sv d = ((vl (rg y) - q * K1 : Nat) : Int) := by
  obtain ⟨r, h1, h2, h3, h4, h5⟩ := fl_sv hq
  have ha : sh (rg y) ≤ 1042 := sh_le (e := 1043) (by omega)
  unfold Format.sub
  rw [h1, read_fin (by omega), read_fin (x := r) (by omega), h2, h3]
  simp only [Datum.opposite, Datum.sum, Bool.not_false, Option.map_some, Format.write]
  obtain ⟨b, hb, b1, b2⟩ : ∃ b : Nat, min (-1074 + ((sh (rg y) : Nat) : Int)) (-1074 + ((sh r : Nat) : Int)) = -1074 + (b : Int) ∧ b ≤ sh (rg y) ∧ b ≤ sh r := ⟨min (sh (rg y)) (sh r), by omega, by omega, by omega⟩
  rw [hb, show (-1074 + ((sh (rg y) : Nat) : Int) - (-1074 + (b : Int))).toNat = sh (rg y) - b by omega, show (-1074 + ((sh r : Nat) : Int) - (-1074 + (b : Int))).toNat = sh r - b by omega]
  -- the total, in units of 2 ^ b
  have e1 : signed (ng y) (mg (rg y)) (sh (rg y) - b) = ((mg (rg y) * 2 ^ (sh (rg y) - b) : Nat) : Int) := by
    unfold signed; rw [Nat.shiftLeft_eq]
    rcases hs with h6 | h6
    · rw [h6, if_neg (by decide)]
    · rw [h6, show mg 0 = 0 by decide, Nat.zero_mul]; cases ng y <;> rfl
  have e2 : signed true (mg r) (sh r - b) = -((mg r * 2 ^ (sh r - b) : Nat) : Int) := by
    unfold signed; rw [Nat.shiftLeft_eq, if_pos rfl]
  rw [e1, e2]
  have p1 : mg (rg y) * 2 ^ (sh (rg y) - b) * 2 ^ b = vl (rg y) := by rw [Nat.mul_assoc, ← Nat.pow_add, Nat.sub_add_cancel b1]; rfl
  have p2 : mg r * 2 ^ (sh r - b) * 2 ^ b = q * K1 := by rw [Nat.mul_assoc, ← Nat.pow_add, Nat.sub_add_cancel b2]; exact h4
  have pb : 0 < 2 ^ b := Nat.pow_pos (by omega)
  have le : mg r * 2 ^ (sh r - b) ≤ mg (rg y) * 2 ^ (sh (rg y) - b) := by
    refine Nat.le_of_mul_le_mul_right ?_ pb
    rw [p1, p2]; exact h
  obtain ⟨D, hD⟩ : ∃ D, mg (rg y) * 2 ^ (sh (rg y) - b) = mg r * 2 ^ (sh r - b) + D := ⟨_, (Nat.add_sub_cancel' le).symm⟩
  have e3 : ((mg (rg y) * 2 ^ (sh (rg y) - b) : Nat) : Int) + -((mg r * 2 ^ (sh r - b) : Nat) : Int) = (D : Int) := by omega
  rw [e3]
  have hDv : D * 2 ^ b = vl (rg y) - q * K1 := by
    have := congrArg (· * 2 ^ b) hD
    simp only [Nat.add_mul] at this
    rw [p1, p2] at this
    omega
  by_cases h0 : D = 0
  · subst h0
    rw [Nat.zero_mul] at hDv
    refine ⟨_, rfl, ?_, ?_⟩
    · show rg (double.nearest _ 0 _) ≤ _
      rw [nearest_zero, word_rg _ (by omega)]; omega
    · show sv (double.nearest _ 0 _) = _
      rw [nearest_zero, sv_nul (word_rg _ (by omega)), ← hDv]; rfl
  · rw [if_neg (by omega), decide_eq_false (by omega), Int.natAbs_natCast]
    -- D is a multiple of 2 ^ (sh y - b)
    have hk : q * K1 = q * 2 ^ (1074 - sh (rg y)) * 2 ^ sh (rg y) := by
      rw [Nat.mul_assoc, ← Nat.pow_add, Nat.sub_add_cancel (by omega)]; rfl
    obtain ⟨m, hm⟩ : ∃ m, m = mg (rg y) - q * 2 ^ (1074 - sh (rg y)) := ⟨_, rfl⟩
    have hm2 : D * 2 ^ b = m * 2 ^ sh (rg y) := by
      rw [hDv, hm, Nat.sub_mul, ← hk]; rfl
    have hm3 : D = m * 2 ^ (sh (rg y) - b) := by
      refine Nat.eq_of_mul_eq_mul_right pb ?_
      rw [hm2, Nat.mul_assoc, ← Nat.pow_add, Nat.sub_add_cancel b1]
    have hm0 : m ≠ 0 := fun hc => h0 (by rw [hm3, hc, Nat.zero_mul])
    obtain ⟨d, d1, d2, d3⟩ := nearest_vl false m (sh (rg y) - b) (sh (rg y)) (-1074 + (b : Int)) hm0 (by have := mg_lt (rg y); omega) (by omega) (by omega)
    refine ⟨_, congrArg some ((congrArg (fun z => double.nearest false z (-1074 + (b : Int))) hm3).trans d1), ?_, ?_⟩
    · rw [word_rg _ (by omega)]; omega
    · rw [sv_of (word_ng _ (by omega)) (word_rg _ (by omega)), d2, ← hDv, hm2]; rfl
/-- the nearest whole number, between two the even one -/
def rhe (n d : Nat) : Nat := n / d + if d < 2 * (n % d) ∨ (d = 2 * (n % d) ∧ n / d % 2 = 1) then 1 else 0
theorem half_lt {d N : Nat} (hd : rg d ≤ 9218868437227405312) (hN : sv d = N) : (FloatKind.f64.format.order d 4602678819172646912 == some Ordering.gt) = decide (K1 < 2 * N) ∧ (FloatKind.f64.format.order d 4602678819172646912 == some Ordering.eq) = decide (K1 = 2 * N) := by
  have hk : K1 = 2 * pw 1073 := by
    have : pw 1074 = pw 1 * pw 1073 := pw_add 1 1073
    unfold K1; rw [this, show pw 1 = 2 from rfl]
  rw [fo_sv hd (by decide), hN, sv_half, hk]
  rcases Nat.lt_trichotomy N (pw 1073) with h | h | h
  · rw [Int.compare_eq_lt.2 (by omega), decide_eq_false (by omega), decide_eq_false (by omega)]; exact ⟨rfl, rfl⟩
  · rw [h, cmp_eq, decide_eq_false (by omega), decide_eq_true (by omega)]; exact ⟨rfl, rfl⟩
  · rw [Int.compare_eq_gt.2 (by omega), decide_eq_true (by omega), decide_eq_false (by omega)]; exact ⟨rfl, rfl⟩
end Go.Proofs.Ytclfambjkolckaa.Fl
