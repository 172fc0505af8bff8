/- The share functions of the program, by contract: Of, Clamp, Same, Less. -/
import Derived.Test.YtclfambjkolckaaShareW
namespace Go.Proofs.Ytclfambjkolckaa.Fl
open Go Go.RowKit Ieee Go.Proofs.Ytclfambjkolckaa.ShareM
set_option linter.unusedVariables false
set_option linter.unusedSimpArgs false
set_option maxRecDepth 20000
/-- a number, 20 down -/
def ofv (m : Nat) : Nat := double.nearest false m (-20)
theorem ofv_vl {m : Nat} (h : m ≤ 1048576) : vl (ofv m) = m * pw 1054 ∧ ofv m ≤ 4607182418800017408 := by
  unfold ofv
  by_cases h0 : m = 0
  · subst h0; rw [nearest_zero, word_false, vl_zero, Nat.zero_mul]; exact ⟨rfl, by omega⟩
  · obtain ⟨r, h1, h2, h3⟩ := nearest_vl false m 0 1054 (-20) h0 (by omega) (by omega) (by omega)
    rw [Nat.pow_zero, Nat.mul_one, word_false] at h1
    rw [h1]
    refine ⟨h2, Nat.le_of_not_lt fun hc => ?_⟩
    have h4 := vl_lt hc
    have h5 := vl_at 1023 0 (by omega) (by omega)
    rw [show (1023 * 4503599627370496 + 0 : Nat) = 4607182418800017408 by omega, Nat.add_zero, ← pw_52, ← pw_add, show 52 + (1023 - 1) = 20 + 1054 by omega, pw_add] at h5
    rw [h5, h2] at h4
    have h6 : m * pw 1054 ≤ pw 20 * pw 1054 := Nat.mul_le_mul_right _ h
    omega
theorem fl_word {m : Nat} (h : m < 9007199254740992) : ∃ r, floatOfInt .f64 (m : Int) = r ∧ rg r = r ∧ ng r = false ∧ vl r = m * K1 ∧ r < 9218868437227405312 := by
  obtain ⟨r, h1, h2⟩ := fl_sv h
  exact ⟨r, h1, h2⟩
/-- Ldexp of a number, 20 down -/
theorem ldexp_of {m : Nat} (h : m ≤ 1048576) (w : World) : Calls Try.prog 132 #[.float .f64 (floatOfInt .f64 (m : Int)), .int .i64 (-20)] w fun e w' => e = .returned (.float .f64 (ofv m)) ∧ w = w' := by
  obtain ⟨f, f1, f2, f3, f4, f5⟩ := fl_word (m := m) (by omega)
  rw [f1]
  refine ldexp_top f _ (-20) w ?_
  by_cases h0 : m = 0
  · subst h0
    rw [Nat.zero_mul] at f4
    have : f = 0 := vl_inj (by rw [f4, vl_zero])
    subst this
    exact ldexp_zero 0 (-20) w (by decide)
  · have hf : 4607182418800017408 ≤ f := by
      refine Nat.le_of_not_lt fun hc => ?_
      have h4 := vl_lt hc
      have h5 := vl_at 1023 0 (by omega) (by omega)
      rw [show (1023 * 4503599627370496 + 0 : Nat) = 4607182418800017408 by omega, Nat.add_zero, ← pw_52, ← pw_add, show 52 + (1023 - 1) = 1074 by omega] at h5
      rw [h5, f4] at h4
      have h6 : 1 * K1 ≤ m * K1 := Nat.mul_le_mul_right _ (by omega)
      unfold K1 at *
      omega
    have hb := ldexp_n (x := f) (-20) (by omega) (by omega) f5 (E := f / 4503599627370496 - 20) (by omega) (by omega) (by omega) w
    have e : ofv m = (f / 4503599627370496 - 20) * 4503599627370496 + f % 4503599627370496 := by
      refine vl_inj ?_
      have e1 := vl_at (f / 4503599627370496 - 20) (f % 4503599627370496) (by omega) (by omega)
      have e2 := vl_at (f / 4503599627370496) (f % 4503599627370496) (by omega) (by omega)
      rw [show f / 4503599627370496 * 4503599627370496 + f % 4503599627370496 = f by omega, f4] at e2
      refine Nat.eq_of_mul_eq_mul_right (pw_pos 20) ?_
      rw [e1, (ofv_vl h).1, Nat.mul_assoc, Nat.mul_assoc, ← pw_add, ← pw_add, show f / 4503599627370496 - 20 - 1 + 20 = f / 4503599627370496 - 1 by omega, ← e2]
      rfl
    rw [e]; exact hb
theorem of_calls (n : Int) (m : Nat) (hm : (m : Int) = max 0 (min n 1048576)) (w : World) : Calls Try.prog 83 #[.int .i64 n] w fun e w' => e = .returned (.float .f64 (ofv m)) ∧ w = w' := by
  have hl : ∀ z : Int, z = (m : Int) → ∀ w, Calls Try.prog 132 #[.float .f64 (floatOfInt .f64 z), .int .i64 (-20)] w fun e w' => e = .returned (.float .f64 (ofv m)) ∧ w = w' := fun z hz w => by
    subst hz; exact ldexp_of (m := m) (by omega) w
  have HL := Lib.hid hl; clear hl
  by_cases h1 : n ≤ 0
  · have HM : Hid ((0 : Int) = m) := Lib.hid (by omega)
    have h2 : ¬ (1048576 < n) := by omega
    have h3 : ¬ (0 < n) := by omega
    clear hm h1
    go_enter Try.func83, Try.ntmps83
    go_wp2_with (go_at_call 132; refine (HL.out _ HM.out _).mono ?_; rintro e w' ⟨rfl, rfl⟩)
    go_ret
    exact ⟨rfl, rfl⟩
  · by_cases h2 : 1048576 < n
    · have HM : Hid ((1048576 : Int) = m) := Lib.hid (by omega)
      clear hm h1
      go_enter Try.func83, Try.ntmps83
      go_wp2_with (go_at_call 132; refine (HL.out _ HM.out _).mono ?_; rintro e w' ⟨rfl, rfl⟩)
      go_ret
      exact ⟨rfl, rfl⟩
    · have HM : Hid (n = m) := Lib.hid (by omega)
      have h3 : 0 < n := by omega
      clear hm h1
      go_enter Try.func83, Try.ntmps83
      go_wp2_with (go_at_call 132; refine (HL.out _ HM.out _).mono ?_; rintro e w' ⟨rfl, rfl⟩)
      go_ret
      exact ⟨rfl, rfl⟩
/-- between nought and one -/
def clv (x : Nat) : Nat :=
  if 9218868437227405312 < rg x ∨ ng x = true ∨ rg x = 0 then 0 else if 4607182418800017408 < rg x then 4607182418800017408 else x
theorem clamp_0 (x : Nat) (k : Int) (h5 : (k == 5) = false) (h6 : (k == 6) = false) (w : World) (h : ∀ w, Calls Try.prog 78 #[.float .f64 x] w fun e w' => e = .returned (.int .i64 k) ∧ w = w') : Calls Try.prog 85 #[.float .f64 x] w fun e w' => e = .returned (.float .f64 0) ∧ w = w' := by
  have H := Lib.hid h; clear h
  go_enter Try.func85, Try.ntmps85
  go_wp2_with (go_at_call 78; refine (H.out _).mono ?_; rintro e w' ⟨rfl, rfl⟩)
  go_ret
  exact ⟨rfl, rfl⟩
theorem min_run (x r : Nat) (h : ∀ w, Sem.run Try.prog (Go.Builtin.min_ #[79, 79] 79 #[.float .f64 x, .float .f64 4607182418800017408]) w = .ok (.float .f64 r) w) (k : Int) (hk : k = 5 ∨ k = 6) (w : World) (hc : ∀ w, Calls Try.prog 78 #[.float .f64 x] w fun e w' => e = .returned (.int .i64 k) ∧ w = w') : Calls Try.prog 85 #[.float .f64 x] w fun e w' => e = .returned (.float .f64 r) ∧ w = w' := by
  have H := Lib.hid hc; clear hc
  rcases hk with rfl | rfl
  all_goals
    go_enter Try.func85, Try.ntmps85
    go_wp2_with (go_at_call 78; refine (H.out _).mono ?_; rintro e w' ⟨rfl, rfl⟩)
    go_ret
    exact ⟨rfl, rfl⟩
def mino (o : Ordering) (x y : Nat) : Nat := match o with | .lt => x | .gt => y | .eq => if (FloatKind.f64.decode x).neg then x else y
theorem min_of (x y : Nat) (o : Ordering) (h : FloatKind.f64.format.order x y = some o) (ts : Array TypeId) (t : TypeId) (w : World) : Sem.run Try.prog (Go.Builtin.min_ ts t #[.float .f64 x, .float .f64 y]) w = .ok (.float .f64 (mino o x y)) w := by
  have e : Go.Builtin.min2 (.float .f64 x) (.float .f64 y) = (match FloatKind.f64.format.order x y with
    | none => do pure (.float .f64 (← choose (.nanMinMax .f64 false x y)))
    | some .lt => pure (.float .f64 x)
    | some .gt => pure (.float .f64 y)
    | some .eq => pure (.float .f64 (if (FloatKind.f64.decode x).neg then x else y))) := rfl
  have e0 : Go.Builtin.min_ ts t #[.float .f64 x, .float .f64 y] = (Go.Builtin.min2 (.float .f64 x) (.float .f64 y) >>= fun s => List.foldlM Go.Builtin.min2 s []) := rfl
  rw [e0, e, h]
  cases o <;> rfl
theorem clamp_calls (x : Nat) (hx : x < 18446744073709551616) (w : World) : Calls Try.prog 85 #[.float .f64 x] w fun e w' => e = .returned (.float .f64 (clv x)) ∧ w = w' := by
  unfold clv
  by_cases h0 : 9218868437227405312 < rg x ∨ ng x = true ∨ rg x = 0
  · rw [if_pos h0]
    have hc : cl x ≠ 5 ∧ cl x ≠ 6 := by
      unfold cl
      by_cases h1 : 9218868437227405312 < rg x
      · rw [if_pos h1]; omega
      · rw [if_neg h1]
        rcases h0.resolve_left h1 with h2 | h2
        · rw [h2]; split
          · simp
          · split <;> simp
        · rw [if_neg (by omega), if_pos h2]; cases ng x <;> simp
    exact clamp_0 x (cl x) (beq_eq_false_iff_ne.2 hc.1) (beq_eq_false_iff_ne.2 hc.2) w (kind_is hx rfl)
  · rw [if_neg h0]
    have h1 : rg x ≤ 9218868437227405312 := by omega
    have hn : ng x = false := by
      cases hb : ng x
      · rfl
      · exact absurd (.inr (.inl hb)) h0
    have h2 : rg x ≠ 0 := fun hc => h0 (.inr (.inr hc))
    have hc : cl x = 5 ∨ cl x = 6 := by
      unfold cl
      rw [if_neg (by omega), hn, if_neg h2]
      split <;> simp
    have hxr : rg x = x := by have := of_word hx; rw [hn, word_false] at this; exact this
    refine min_run x _ (fun w => ?_) (cl x) hc w (kind_is hx rfl)
    by_cases h3 : 4607182418800017408 < rg x
    · rw [if_pos h3]
      have ho : FloatKind.f64.format.order x 4607182418800017408 = some .gt := by
        rw [fo_sv h1 (by decide), sv_of hn rfl, sv_of (x := 4607182418800017408) (r := 4607182418800017408) (by decide) (by decide), Int.compare_eq_gt.2 (by have := vl_lt h3; omega)]
      rw [min_of x _ _ ho]; rfl
    · rw [if_neg h3]
      rcases Nat.lt_or_eq_of_le (Nat.le_of_not_lt h3) with h4 | h4
      · have ho : FloatKind.f64.format.order x 4607182418800017408 = some .lt := by
          rw [fo_sv h1 (by decide), sv_of hn rfl, sv_of (x := 4607182418800017408) (r := 4607182418800017408) (by decide) (by decide), Int.compare_eq_lt.2 (by have := vl_lt h4; omega)]
        rw [min_of x _ _ ho]; rfl
      · rw [hxr] at h4
        subst h4
        rw [min_of 4607182418800017408 4607182418800017408 .eq (by decide)]; rfl
/-- the same float -/
def smv (x y : Nat) : Bool := (decide (9218868437227405312 < rg x) && decide (9218868437227405312 < rg y)) || decide (x = y)
theorem nan_dec (x : Nat) : (FloatKind.f64.format.order x x != some Ordering.eq) = decide (9218868437227405312 < rg x) := by
  by_cases h : 9218868437227405312 < rg x
  · rw [t_nan h, decide_eq_true h]
  · rw [t_num (by omega), decide_eq_false h]
theorem isNaN_is (x : Nat) (b : Bool) (h : decide (9218868437227405312 < rg x) = b) (w : World) : Calls Try.prog 133 #[.float .f64 x] w fun e w' => e = .returned (.bool b) ∧ w = w' :=
  (isNaN_calls x w).mono fun e w' he => ⟨by rw [he.1, nan_dec, h], he.2⟩
set_option maxHeartbeats 1000000 in
theorem same_calls (x y : Nat) (w : World) : Calls Try.prog 80 #[.float .f64 x, .float .f64 y] w fun e w' => e = .returned (.bool (smv x y)) ∧ w = w' := by
  have main : ∀ a b c : Bool, decide (9218868437227405312 < rg x) = a → decide (9218868437227405312 < rg y) = b → ((x : Int) == (y : Int)) = c → Calls Try.prog 80 #[.float .f64 x, .float .f64 y] w fun e w' => e = .returned (.bool ((a && b) || c)) ∧ w = w' := by
    intro a b c ha hb hc
    have HA := Lib.hid ha; have HB := Lib.hid hb; clear ha hb
    have h := f64bits
    cases a <;> cases b <;> cases c <;>
    (go_enter Try.func80, Try.ntmps80
     go_wp2_with (first | ((with_reducible refine (isNaN_is x _ HA.out _).mono ?_); rintro e w' ⟨rfl, rfl⟩) | ((with_reducible refine (isNaN_is y _ HB.out _).mono ?_); rintro e w' ⟨rfl, rfl⟩))
     go_ret
     exact ⟨rfl, rfl⟩)
  have e : ((x : Int) == (y : Int)) = decide (x = y) := by
    by_cases h : x = y
    · subst h; simp
    · rw [decide_eq_false h]; exact beq_eq_false_iff_ne.2 (by omega)
  have := main _ _ _ rfl rfl rfl
  rw [e] at this
  exact this
/-- which one stands ahead -/
def lsv (x y : Nat) : Bool := if cl x = cl y then (FloatKind.f64.format.order x y == some Ordering.lt) else decide (cl x < cl y)
theorem less_calls (x y : Nat) (hx : x < 18446744073709551616) (hy : y < 18446744073709551616) (w : World) : Calls Try.prog 81 #[.float .f64 x, .float .f64 y] w fun e w' => e = .returned (.bool (lsv x y)) ∧ w = w' := by
  have main : ∀ a b : Int, cl x = a → cl y = b → Calls Try.prog 81 #[.float .f64 x, .float .f64 y] w fun e w' => e = .returned (.bool (if a = b then (FloatKind.f64.format.order x y == some Ordering.lt) else decide (a < b))) ∧ w = w' := by
    intro a b ha hb
    have HA := Lib.hid ha; have HB := Lib.hid hb; clear ha hb
    by_cases hab : a = b
    · rw [if_pos hab]
      have h1 : (a != b) = false := bne_eq_false_iff_eq.2 hab
      clear hab
      go_enter Try.func81, Try.ntmps81
      go_wp2_with (first | ((with_reducible refine (kind_is (k := a) hx HA.out _).mono ?_); rintro e w' ⟨rfl, rfl⟩) | ((with_reducible refine (kind_is (k := b) hy HB.out _).mono ?_); rintro e w' ⟨rfl, rfl⟩))
      go_ret
      exact ⟨rfl, rfl⟩
    · rw [if_neg hab]
      have h1 : (a != b) = true := bne_iff_ne.2 hab
      clear hab
      go_enter Try.func81, Try.ntmps81
      go_wp2_with (first | ((with_reducible refine (kind_is (k := a) hx HA.out _).mono ?_); rintro e w' ⟨rfl, rfl⟩) | ((with_reducible refine (kind_is (k := b) hy HB.out _).mono ?_); rintro e w' ⟨rfl, rfl⟩))
      go_ret
      exact ⟨rfl, rfl⟩
  exact main _ _ rfl rfl
end Go.Proofs.Ytclfambjkolckaa.Fl
