/- The document's Units and Of, by contract. -/
import Derived.Test.YtclfambjkolckaaShareD
import Derived.LoopTactic
namespace Go.Proofs.Ytclfambjkolckaa.Fl
open Go Go.RowKit Ieee Go.Proofs.Ytclfambjkolckaa.ShareM
set_option linter.unusedVariables false
set_option linter.unusedSimpArgs false
set_option maxRecDepth 20000
theorem runits_nan (x : Nat) (h : 9218868437227405312 < rg x) (w : World) : Calls Try.prog 77 #[.float .f64 x] w fun e w' => e = .returned (.tuple #[.int .i64 0, .int .i64 21]) ∧ w = w' := by
  have HA := Lib.hid (decide_eq_true h); clear h
  go_enter Try.func77, Try.ntmps77
  go_wp2_with ((with_reducible refine (none_is x _ HA.out _).mono ?_); rintro e w' ⟨rfl, rfl⟩)
  go_ret2
  exact ⟨rfl, rfl⟩
theorem runits_out (x : Nat) (h : rg x ≤ 9218868437227405312) (a b : Bool) (ha : (FloatKind.f64.format.order x 0 == some Ordering.lt) = a) (hb : (FloatKind.f64.format.order x 4607182418800017408 == some Ordering.gt) = b) (hab : (a || b) = true) (w : World) : Calls Try.prog 77 #[.float .f64 x] w fun e w' => e = .returned (.tuple #[.int .i64 0, .int .i64 2]) ∧ w = w' := by
  have HA := Lib.hid (decide_eq_false (show ¬ 9218868437227405312 < rg x by omega)); clear h
  cases a <;> cases b <;> first | exact absurd hab (by decide) |
  (clear hab
   go_enter Try.func77, Try.ntmps77
   go_wp2_with ((with_reducible refine (none_is x _ HA.out _).mono ?_); rintro e w' ⟨rfl, rfl⟩)
   go_ret2
   exact ⟨rfl, rfl⟩)
set_option maxHeartbeats 2000000 in
theorem runits_in (x y d N : Nat) (q : Nat) (hq : q ≤ 1048576) (h : rg x ≤ 9218868437227405312) (ha : (FloatKind.f64.format.order x 0 == some Ordering.lt) = false) (hb : (FloatKind.f64.format.order x 4607182418800017408 == some Ordering.gt) = false) (hm : floatBits .mul .f64 x 4697254411347427328 = some y)
    (hle : ∀ m : Nat, m < 2000000 → (FloatKind.f64.format.order (floatOfInt .f64 (m : Int)) y == some Ordering.lt || FloatKind.f64.format.order (floatOfInt .f64 (m : Int)) y == some Ordering.eq) = decide (m ≤ q))
    (hd : floatBits .sub .f64 y (floatOfInt .f64 (q : Int)) = some d) (s t : Bool) (hs : (FloatKind.f64.format.order d 4602678819172646912 == some Ordering.gt) = s) (ht : (FloatKind.f64.format.order d 4602678819172646912 == some Ordering.eq) = t) (u : Bool) (hu : ((q : Int) % 2 == 1) = u) (w : World) :
    Calls Try.prog 77 #[.float .f64 x] w fun e w' => e = .returned (.tuple #[.int .i64 ((q : Int) + if s || (t && u) then 1 else 0), .int .i64 0]) ∧ w = w' := by
  have HA := Lib.hid (decide_eq_false (show ¬ 9218868437227405312 < rg x by omega)); clear h
  have hc := fun w => run_float_arith (P := Try.prog) w .mul 79 .f64 x 4697254411347427328 y hm
  have hc2 := fun w => run_float_arith (P := Try.prog) w .sub 79 .f64 y (floatOfInt .f64 (q : Int)) d hd
  have HC2 := Lib.hid hc2; have HLE := Lib.hid hle; have HS := Lib.hid hs; have HT := Lib.hid ht; have HU := Lib.hid hu
  clear hm hd hc2 hle hs ht hu
  go_enter Try.func77, Try.ntmps77
  go_wp2_with ((with_reducible refine (none_is x _ HA.out _).mono ?_); rintro e w' ⟨rfl, rfl⟩)
  go_loop [5, 6] (fun lo hi => ∃ a b : Nat, a ≤ q ∧ q < b ∧ b ≤ 1048577 ∧ lo = .int .i64 a ∧ hi = .int .i64 b) (fun lo hi => (intOf hi - intOf lo).toNat)
  case atStart => exact ⟨0, 1048577, by omega, by omega, by omega, rfl, rfl⟩
  case round =>
    obtain ⟨a, b, h1, h2, h3, rfl, rfl⟩ := hrel
    by_cases hlt : a + 1 < b
    · have t1 : decide ((1 : Int) < (b : Int) - a) = true := decide_eq_true (by omega)
      have hmid := HLE.out ((a + b) / 2) (by omega)
      rw [show (((a + b) / 2 : Nat) : Int) = ((a : Int) + b) / 2 by omega] at hmid
      by_cases hmq : (a + b) / 2 ≤ q
      · rw [decide_eq_true hmq] at hmid
        go_wp2
        go_round
        case rel => exact ⟨(a + b) / 2, b, hmq, h2, h3, by go_num, rfl⟩
        case measure => simp [intOf]; omega
      · rw [decide_eq_false hmq] at hmid
        go_wp2
        go_round
        case rel => exact ⟨a, (a + b) / 2, h1, by omega, by omega, rfl, by go_num⟩
        case measure => simp [intOf]; omega
    · obtain rfl : a = q := by omega
      have t1 : decide ((1 : Int) < (b : Int) - a) = false := decide_eq_false (by omega)
      have c2 := HC2.out
      clear hlt h2
      cases s <;> cases t <;> cases u <;>
      (have hs := HS.out; have ht := HT.out; have hu := HU.out
       go_wp2
       go_ret2
       exact ⟨rfl, rfl⟩)
theorem pick_eq (K R q : Nat) : (if (decide (K < 2 * R) || (decide (K = 2 * R) && decide (q % 2 = 1))) = true then (1 : Int) else 0) = (((if K < 2 * R ∨ (K = 2 * R ∧ q % 2 = 1) then 1 else 0) : Nat) : Int) := by
  by_cases h1 : K < 2 * R <;> by_cases h2 : K = 2 * R <;> by_cases h3 : q % 2 = 1 <;> simp [h1, h2, h3]
theorem runits_calls (x : Nat) (hx : x < 18446744073709551616) (w : World) : Calls Try.prog 77 #[.float .f64 x] w fun e w' => e = .returned (.tuple #[.int .i64 (un x).1, .int .i64 (un x).2]) ∧ w = w' := by
  unfold un
  by_cases h0 : 9218868437227405312 < rg x
  · rw [if_pos h0]; exact runits_nan x h0 w
  rw [if_neg h0]
  have hf : rg x ≤ 9218868437227405312 := by omega
  by_cases h1 : rg x ≤ 4607182418800017408 ∧ (ng x = false ∨ rg x = 0)
  · rw [if_pos h1]
    obtain ⟨r, u1, u2, u3⟩ := up20 (x := x) h1
    obtain ⟨y, hy⟩ : ∃ y, y = double.word (ng x) r := ⟨_, rfl⟩
    have hyr : rg y = r := by rw [hy]; exact word_rg _ (by omega)
    have hny : ng y = ng x := by rw [hy]; exact word_ng _ (by omega)
    have hs : ng y = false ∨ rg y = 0 := by
      rcases h1.2 with h2 | h2
      · exact .inl (hny.trans h2)
      · right; rw [hyr]; refine vl_inj ?_; rw [u2, h2, vl_zero, Nat.zero_mul]
    have hsv : sv y = (vl (rg y) : Nat) := by
      rcases hs with h2 | h2
      · exact sv_of h2 rfl
      · rw [sv_nul h2, h2, vl_zero]; rfl
    have hyl := y_le (y := y) (by rw [hyr]; exact u3)
    have hN : vl (rg y) = vl (rg x) * 1048576 := by rw [hyr, u2]
    rw [← hy] at u1
    obtain ⟨N, hNN⟩ : ∃ N, N = vl (rg y) := ⟨_, rfl⟩
    rw [← hNN] at hsv hyl hN
    rw [← hN]
    obtain ⟨q, hq⟩ : ∃ q, q = N / K1 := ⟨_, rfl⟩
    have hq1 : q ≤ 1048576 := by rw [hq]; exact Nat.div_le_of_le_mul (by rw [Nat.mul_comm]; exact hyl)
    have hqN : q * K1 ≤ N := by rw [hq]; exact Nat.div_mul_le_self N K1
    obtain ⟨d, d1, d2, d3⟩ := rest_sv hs (by rw [hyr]; exact u3) (q := q) (by omega) (by rw [← hNN]; exact hqN)
    rw [← hNN] at d3
    have hrem : N - q * K1 = N % K1 := by
      have := Nat.div_add_mod N K1
      rw [← hq, Nat.mul_comm] at this
      omega
    rw [hrem] at d3
    obtain ⟨g1, g2⟩ := half_lt d2 d3
    refine (runits_in x y d N q hq1 hf ?_ ?_ u1 ?_ d1 _ _ g1 g2 (decide (q % 2 = 1)) ?_ w).mono fun e w' he => ⟨?_, he.2⟩
    · rcases h1.2 with h2 | h2
      · by_cases h3 : rg x = 0
        · rw [o_nul h3]; rfl
        · rw [o_pos hf h2 h3]; rfl
      · rw [o_nul h2]; rfl
    · by_cases h2 : rg x = 0
      · exact nul_gt h2
      · rw [one_gt hf (h1.2.resolve_right h2)]; exact decide_eq_false (by have := h1.1; omega)
    · intro m hm
      have := leq_iff (y := y) (by rw [hyr]; omega) hsv (m := m) (by omega)
      refine Eq.trans this ?_
      congr 1
      rw [hq]
      exact propext (Nat.le_div_iff_mul_le K1_pos).symm
    · by_cases h : q % 2 = 1
      · rw [decide_eq_true h]; exact beq_iff_eq.2 (by omega)
      · rw [decide_eq_false h]; exact beq_eq_false_iff_ne.2 (by omega)
    · rw [he.1]
      unfold rhe
      rw [← hq, pick_eq, ← Int.natCast_add]
  · rw [if_neg h1]
    have h2 : rg x ≠ 0 := fun hc => h1 ⟨by omega, .inr hc⟩
    cases hn : ng x
    · refine runits_out x hf _ _ rfl rfl ?_ w
      rw [one_gt hf hn, decide_eq_true (Nat.lt_of_not_le fun hc => h1 ⟨hc, .inl hn⟩), Bool.or_true]
    · refine runits_out x hf _ _ rfl rfl ?_ w
      rw [o_neg hf hn h2]; rfl
/-! ### Of -/
theorem rof_lo (n : Int) (h : n ≤ 0) (w : World) : Calls Try.prog 84 #[.int .i64 n] w fun e w' => e = .returned (.float .f64 0) ∧ w = w' := by
  go_enter Try.func84, Try.ntmps84
  go_wp2
  go_ret
  exact ⟨rfl, rfl⟩
theorem rof_hi (n : Int) (h0 : 0 < n) (h : 1048576 ≤ n) (w : World) : Calls Try.prog 84 #[.int .i64 n] w fun e w' => e = .returned (.float .f64 4607182418800017408) ∧ w = w' := by
  go_enter Try.func84, Try.ntmps84
  go_wp2
  go_ret
  exact ⟨rfl, rfl⟩
theorem rof_in (n : Int) (r : Nat) (h0 : 0 < n) (h : n < 1048576) (hr : floatBits .quo .f64 (floatOfInt .f64 n) 4697254411347427328 = some r) (w : World) : Calls Try.prog 84 #[.int .i64 n] w fun e w' => e = .returned (.float .f64 r) ∧ w = w' := by
  have hc := fun w => run_float_arith (P := Try.prog) w .quo 79 .f64 (floatOfInt .f64 n) 4697254411347427328 r hr
  clear hr
  go_enter Try.func84, Try.ntmps84
  go_wp2
  go_ret
  exact ⟨rfl, rfl⟩
theorem ofv_one : ofv 1048576 = 4607182418800017408 := by decide
theorem rof_calls (n : Int) (m : Nat) (hm : (m : Int) = max 0 (min n 1048576)) (w : World) : Calls Try.prog 84 #[.int .i64 n] w fun e w' => e = .returned (.float .f64 (ofv m)) ∧ w = w' := by
  by_cases h1 : n ≤ 0
  · obtain rfl : m = 0 := by omega
    exact rof_lo n h1 w
  by_cases h2 : 1048576 ≤ n
  · obtain rfl : m = 1048576 := by omega
    rw [ofv_one]; exact rof_hi n (by omega) h2 w
  · obtain rfl : n = (m : Int) := by omega
    refine rof_in _ _ (by omega) (by omega) ?_ w
    obtain ⟨f, f1, f2, f3, f4, f5⟩ := fl_word (m := m) (by omega)
    rw [f1]
    have hf : 4607182418800017408 ≤ f := by
      refine Nat.le_of_not_lt fun hc => ?_
      have h4 := vl_lt hc
      have h5 := vl_at 1023 0 (by omega) (by omega)
      rw [show (1023 * 4503599627370496 + 0 : Nat) = 4607182418800017408 by omega, Nat.add_zero, ← pw_52, ← pw_add, show 52 + (1023 - 1) = 1074 by omega] at h5
      rw [h5, f4] at h4
      have h6 : 1 * K1 ≤ m * K1 := Nat.mul_le_mul_right _ (by omega)
      unfold K1 at *
      omega
    have hm0 : mg (rg f) ≠ 0 := fun hc => by have := mg_zero hc; omega
    have hs : 20 ≤ sh (rg f) := by unfold sh; omega
    show double.div f 4697254411347427328 = some (ofv m)
    have hL := log2_le _ hm0 (mg_lt (rg f))
    obtain ⟨r, h3, h4, h5⟩ := nearest_vl (ng f) (mg (rg f)) (55 - (mg (rg f)).log2) (sh (rg f) - 20) (-1074 + (sh (rg f) : Nat) - (20 : Nat) - 55 + ((mg (rg f)).log2 : Nat)) hm0 (mg_lt _) (by omega) (by unfold sh; omega)
    rw [show (4697254411347427328 : Nat) = (1023 + 20) * 4503599627370496 by omega, div_pow 20 (by omega) (by omega) hm0, h3, f3, word_false]
    congr 1
    refine vl_inj ?_
    refine Nat.eq_of_mul_eq_mul_right (pw_pos 20) ?_
    rw [h4, (ofv_vl (by omega)).1, Nat.mul_assoc, Nat.mul_assoc, ← pw_add, ← pw_add, Nat.sub_add_cancel hs]
    show vl (rg f) = m * pw 1074
    rw [f2, f4]; rfl
end Go.Proofs.Ytclfambjkolckaa.Fl
