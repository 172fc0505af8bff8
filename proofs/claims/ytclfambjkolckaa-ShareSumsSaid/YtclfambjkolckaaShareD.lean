/- Quotients of floats by powers of two; the document's Kind, Less, Of. -/
import Derived.Test.YtclfambjkolckaaShareR
namespace Go.Proofs.Ytclfambjkolckaa.Fl
open Go Go.RowKit Ieee Go.Proofs.Ytclfambjkolckaa.ShareM
set_option linter.unusedVariables false
set_option linter.unusedSimpArgs false
set_option maxRecDepth 20000
theorem div_pow {x : Nat} (k : Nat) (hk : k < 1000) (hx : rg x < 9218868437227405312) (h0 : mg (rg x) ≠ 0) :
    double.div x ((1023 + k) * 4503599627370496) = some (double.nearest (ng x) (mg (rg x) * 2 ^ (55 - (mg (rg x)).log2)) (-1074 + (sh (rg x) : Nat) - k - 55 + ((mg (rg x)).log2 : Nat))) := by
  unfold Format.div
  rw [read_fin hx, read_pow k hk]
  have hL := log2_le _ h0 (mg_lt (rg x))
  generalize hm : mg (rg x) = m at h0 hL
  simp only [Datum.quotient, frac_]
  rw [if_neg (by omega)]
  simp only [Option.map_some, Format.write, Bool.xor_false]
  have e1 : (4503599627370496 : Nat).log2 = 52 := by decide
  rw [e1, show 52 + 2 + 52 - m.log2 = (54 - m.log2) + 52 by omega, Nat.shiftLeft_eq, Nat.pow_add, ← Nat.mul_assoc, show (2 ^ 52 : Nat) = 4503599627370496 by decide, Nat.mul_div_cancel _ (by omega), Nat.mul_mod_left]
  have e2 : 2 * (m * 2 ^ (54 - m.log2)) + (0 != 0 : Bool).toNat = m * 2 ^ (55 - m.log2) := by
    rw [show 55 - m.log2 = (54 - m.log2) + 1 by omega, Nat.pow_succ, Nat.mul_comm _ 2, Nat.mul_left_comm m 2]
    simp only [bne_self_eq_false, Bool.toNat_false, Nat.add_zero]
  rw [e2]
  congr 2
  omega
theorem half_ne {x : Nat} (hx : rg x < 9218868437227405312) (h0 : rg x ≠ 0) : ∃ h, floatBits .quo .f64 x 4611686018427387904 = some h ∧ (FloatKind.f64.format.order x h == some Ordering.eq) = false := by
  have hm0 : mg (rg x) ≠ 0 := fun hc => h0 (mg_zero hc)
  have hd := div_pow 1 (by omega) hx hm0
  show ∃ h, double.div x 4611686018427387904 = some h ∧ _
  have fin : ∀ r', r' < 9218868437227405312 → vl r' ≠ vl (rg x) → (FloatKind.f64.format.order x (double.word (ng x) r') == some Ordering.eq) = false := fun r' hr hne => by
    rw [fo_sv (by omega) (by rw [word_rg _ (by omega)]; omega)]
    have : sv x ≠ sv (double.word (ng x) r') := fun hc => by
      unfold sv at hc
      rw [word_ng _ (by omega), word_rg _ (by omega)] at hc
      cases hn : ng x <;> rw [hn] at hc <;> simp at hc <;> omega
    have h2 : compare (sv x) (sv (double.word (ng x) r')) ≠ .eq := fun hc => this (Int.compare_eq_eq.1 hc)
    simpa using h2
  refine ⟨_, hd, ?_⟩
  have hL := log2_le _ hm0 (mg_lt (rg x))
  by_cases hs : 1 ≤ sh (rg x)
  · obtain ⟨r, h1, h2, h3⟩ := nearest_vl (ng x) (mg (rg x)) (55 - (mg (rg x)).log2) (sh (rg x) - 1) (-1074 + (sh (rg x) : Nat) - (1 : Nat) - 55 + ((mg (rg x)).log2 : Nat)) hm0 (mg_lt _) (by omega) (by unfold sh; omega)
    rw [h1]
    refine fin r h3 ?_
    rw [h2, vl_pw]
    have e : pw (sh (rg x)) = pw (sh (rg x) - 1) * 2 := by
      have := pw_add (sh (rg x) - 1) 1
      rw [Nat.sub_add_cancel hs] at this
      rw [this]; rfl
    rw [e]
    have hp := pw_pos (sh (rg x) - 1)
    have h4 : mg (rg x) * pw (sh (rg x) - 1) ≠ 0 := Nat.mul_ne_zero hm0 (by omega)
    rw [← Nat.mul_assoc]
    omega
  · have hs0 : sh (rg x) = 0 := by omega
    have hr : rg x ≤ 9007199254740992 := by unfold sh at hs0; omega
    have hm : mg (rg x) = rg x := by
      have := vl_small hr
      rw [vl_pw, hs0, show pw 0 = 1 from rfl, Nat.mul_one] at this
      exact this
    rw [hs0]
    rw [hm] at hL ⊢
    generalize hr0 : rg x = r at *
    unfold Format.nearest
    rw [if_neg (Nat.mul_ne_zero h0 (by have := Nat.pow_pos (n := 55 - r.log2) (show 0 < 2 by omega); omega))]
    simp only [frac_, least_, binade_, inf_]
    rw [log2_mul_pow r _ h0, show max (-1074 + ((0 : Nat) : Int) - ((1 : Nat) : Int) - 55 + ((r.log2 : Nat) : Int) + ((r.log2 + (55 - r.log2) : Nat) : Int) - ((52 : Nat) : Int)) (-1074) = -1074 by omega]
    rw [show (-1074 + ((0 : Nat) : Int) - ((1 : Nat) : Int) - 55 + ((r.log2 : Nat) : Int) - -1074).toNat = 0 by omega, Nat.shiftLeft_zero, show (-1074 - (-1074 + ((0 : Nat) : Int) - ((1 : Nat) : Int) - 55 + ((r.log2 : Nat) : Int))).toNat = 1 + (55 - r.log2) by omega, cut_even, Nat.pow_add, rhe_mul _ _ _ (Nat.pow_pos (by omega))]
    have e3 : rhe r (2 ^ 1) < r := by
      unfold rhe
      have : (2 ^ 1 : Nat) = 2 := rfl
      rw [this]
      split <;> omega
    rw [show ((-1074 : Int) - -1074).toNat = 0 by omega, Nat.zero_mul, Nat.zero_add, Nat.min_eq_left (by omega)]
    refine fin _ (by omega) ?_
    have := vl_lt e3
    omega
theorem half_inf {x : Nat} (hx : x < 18446744073709551616) (h : rg x = 9218868437227405312) : floatBits .quo .f64 x 4611686018427387904 = some x ∧ (FloatKind.f64.format.order x x == some Ordering.eq) = true := by
  refine ⟨?_, by rw [fo_sv (by omega) (by omega), cmp_eq]; rfl⟩
  show double.div x 4611686018427387904 = some x
  unfold Format.div
  rw [read_inf h, show double.read 4611686018427387904 = .number false 4503599627370496 (-51) by decide]
  simp only [Datum.quotient, Option.map_some, Format.write, Bool.xor_false, inf_]
  rw [← h, of_word hx]
set_option maxHeartbeats 1000000 in
theorem rkind_nan (x : Nat) (h : 9218868437227405312 < rg x) (w : World) : Calls Try.prog 79 #[.float .f64 x] w fun e w' => e = .returned (.int .i64 0) ∧ w = w' := by
  have HA := Lib.hid (decide_eq_true h); clear h
  go_enter Try.func79, Try.ntmps79
  go_wp2_with ((with_reducible refine (none_is x _ HA.out _).mono ?_); rintro e w' ⟨rfl, rfl⟩)
  go_ret
  exact ⟨rfl, rfl⟩
set_option maxHeartbeats 2000000 in
theorem rkind_num (x r : Nat) (o : Ordering) (f b : Bool) (h : rg x ≤ 9218868437227405312) (ho : FloatKind.f64.format.order x 0 = some o) (hne : o ≠ .eq) (hr : floatBits .quo .f64 x 4611686018427387904 = some r) (hf : (FloatKind.f64.format.order x r == some Ordering.eq) = f) (w : World) :
    Calls Try.prog 79 #[.float .f64 x] w fun e w' => e = .returned (.int .i64 (if f then (if o = .lt then 1 else 6) else (if o = .lt then 2 else 5))) ∧ w = w' := by
  have HA := Lib.hid (decide_eq_false (show ¬ 9218868437227405312 < rg x by omega)); clear h
  have hc := fun w => run_float_arith (P := Try.prog) w .quo 79 .f64 x 4611686018427387904 r hr
  clear hr
  cases o <;> cases f <;> first | exact absurd rfl hne |
  (clear hne
   have t1 : (FloatKind.f64.format.order x 0 != some Ordering.eq) = true := by rw [ho]; rfl
   go_enter Try.func79, Try.ntmps79
   go_wp2_with ((with_reducible refine (none_is x _ HA.out _).mono ?_); rintro e w' ⟨rfl, rfl⟩)
   go_ret
   exact ⟨rfl, rfl⟩)
theorem rkind_nul (x : Nat) (hx : x < 18446744073709551616) (p : Bool) (h : rg x = 0) (hp : ng x = p) (w : World) : Calls Try.prog 79 #[.float .f64 x] w fun e w' => e = .returned (.int .i64 (if p then 3 else 4)) ∧ w = w' := by
  have HA := Lib.hid (decide_eq_false (show ¬ 9218868437227405312 < rg x by omega))
  have HX := Lib.hid (fun w => (below_is x hx (by omega) w)); rw [hp] at HX; clear hp
  have t1 : (FloatKind.f64.format.order x 0 != some Ordering.eq) = false := by rw [o_nul h]; rfl
  clear h
  cases p <;>
  (go_enter Try.func79, Try.ntmps79
   go_wp2_with (first | ((with_reducible refine (none_is x _ HA.out _).mono ?_); rintro e w' ⟨rfl, rfl⟩) | ((with_reducible refine (HX.out _).mono ?_); rintro e w' ⟨rfl, rfl⟩))
   go_ret
   exact ⟨rfl, rfl⟩)
theorem rkind_is {x : Nat} {k : Int} (hx : x < 18446744073709551616) (h : cl x = k) (w : World) : Calls Try.prog 79 #[.float .f64 x] w fun e w' => e = .returned (.int .i64 k) ∧ w = w' := by
  subst h
  unfold cl
  by_cases h0 : 9218868437227405312 < rg x
  · rw [if_pos h0]; exact rkind_nan x h0 w
  rw [if_neg h0]
  have hf : rg x ≤ 9218868437227405312 := by omega
  by_cases h2 : rg x = 0
  · rw [if_neg (by omega), if_pos h2]
    have := rkind_nul x hx (ng x) h2 rfl w
    exact this
  · have ho : FloatKind.f64.format.order x 0 = some (if ng x then .lt else .gt) := by
      cases hn : ng x
      · exact o_pos hf hn h2
      · exact o_neg hf hn h2
    by_cases h1 : rg x = 9218868437227405312
    · obtain ⟨a, b⟩ := half_inf hx h1
      have := rkind_num x x _ true false hf ho (by cases ng x <;> simp) a b w
      rw [if_pos h1]
      cases hn : ng x <;> rw [hn] at this <;> exact this
    · obtain ⟨r, a, b⟩ := half_ne (by omega) h2
      have := rkind_num x r _ false false hf ho (by cases ng x <;> simp) a b w
      rw [if_neg h1, if_neg h2]
      cases hn : ng x <;> rw [hn] at this <;> exact this
theorem rless_calls (x y : Nat) (hx : x < 18446744073709551616) (hy : y < 18446744073709551616) (w : World) : Calls Try.prog 82 #[.float .f64 x, .float .f64 y] w fun e w' => e = .returned (.bool (lsv x y)) ∧ w = w' := by
  have main : ∀ (a b : Int) (c : Bool), cl x = a → cl y = b → (FloatKind.f64.format.order x y == some Ordering.lt) = c → Calls Try.prog 82 #[.float .f64 x, .float .f64 y] w fun e w' => e = .returned (.bool (if a = b then c else decide (a < b))) ∧ w = w' := by
    intro a b c ha hb hc
    have HA := Lib.hid ha; have HB := Lib.hid hb; clear ha hb
    rcases Int.lt_trichotomy a b with h | h | h
    · rw [if_neg (by omega), decide_eq_true h]
      go_enter Try.func82, Try.ntmps82
      go_wp2_with (first | ((with_reducible refine (rkind_is (k := a) hx HA.out _).mono ?_); rintro e w' ⟨rfl, rfl⟩) | ((with_reducible refine (rkind_is (k := b) hy HB.out _).mono ?_); rintro e w' ⟨rfl, rfl⟩))
      go_ret
      exact ⟨rfl, rfl⟩
    · rw [if_pos h]
      have h1 : (a == b) = true := beq_iff_eq.2 h
      have h2 : decide (a < b) = false := decide_eq_false (by omega)
      clear h
      cases c <;>
      (go_enter Try.func82, Try.ntmps82
       go_wp2_with (first | ((with_reducible refine (rkind_is (k := a) hx HA.out _).mono ?_); rintro e w' ⟨rfl, rfl⟩) | ((with_reducible refine (rkind_is (k := b) hy HB.out _).mono ?_); rintro e w' ⟨rfl, rfl⟩))
       go_ret
       exact ⟨rfl, rfl⟩)
    · rw [if_neg (by omega), decide_eq_false (by omega)]
      have h1 : (a == b) = false := beq_eq_false_iff_ne.2 (by omega)
      have h2 : decide (a < b) = false := decide_eq_false (by omega)
      go_enter Try.func82, Try.ntmps82
      go_wp2_with (first | ((with_reducible refine (rkind_is (k := a) hx HA.out _).mono ?_); rintro e w' ⟨rfl, rfl⟩) | ((with_reducible refine (rkind_is (k := b) hy HB.out _).mono ?_); rintro e w' ⟨rfl, rfl⟩))
      go_ret
      exact ⟨rfl, rfl⟩
  exact main _ _ _ rfl rfl rfl
end Go.Proofs.Ytclfambjkolckaa.Fl
