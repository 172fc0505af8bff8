/- The share functions of the program, by contract. -/
import Derived.Test.YtclfambjkolckaaFlA
import Derived.LoopTactic
-- part: ShareW
namespace Go.Proofs.Ytclfambjkolckaa.Fl
open Go Go.RowKit Ieee Go.Proofs.Ytclfambjkolckaa.ShareM
set_option linter.unusedVariables false
set_option linter.unusedSimpArgs false
set_option maxRecDepth 20000
theorem round_run0 (y : Nat) (w : World) : Sem.run Try.prog (callFunc 131 #[.float .f64 y]) w = Sem.run Try.prog (do pure (Next.value (← Go.Extern.MathFloor.toIntegral "math.RoundToEven" .even #[.float .f64 y]))) w := by kernel_rfl
theorem round_run (y : Nat) (h : rg y < 9218868437227405312) (w : World) : Sem.run Try.prog (callFunc 131 #[.float .f64 y]) w = .ok (.value (.float .f64 (FloatKind.f64.encode ((FloatKind.f64.decode y).integral .even)))) w := by
  rw [round_run0]
  have hd : FloatKind.f64.decode y = .number (ng y) (mg (rg y)) (-1074 + (sh (rg y) : Nat)) := read_fin h
  have e : Go.Extern.MathFloor.toIntegral "math.RoundToEven" .even #[.float .f64 y] = (match FloatKind.f64.decode y with
    | .nan s t =>
      if FloatKind.f64.format.quiet t = t then pure (.float .f64 y) else do
      let kept ← choose (.extern "math.Floor,Ceil,Trunc,RoundToEven.signallingNaN kept" 2)
      pure (.float .f64 (if kept == 1 then y else FloatKind.f64.encode (.nan s (FloatKind.f64.format.quiet t))))
    | d => pure (.float .f64 (FloatKind.f64.encode (d.integral .even)))) := rfl
  rw [e, hd]
  rfl
theorem kind_is {x : Nat} {k : Int} (hx : x < 18446744073709551616) (h : cl x = k) (w : World) : Calls Try.prog 78 #[.float .f64 x] w fun e w' => e = .returned (.int .i64 k) ∧ w = w' :=
  (kind_calls x w).mono fun e w' he => ⟨by rw [he.1, kv_cl hx, h], he.2⟩
/-- units of a float, and the error -/
def un (x : Nat) : Int × Int :=
  if 9218868437227405312 < rg x then (0, 21)
  else if rg x ≤ 4607182418800017408 ∧ (ng x = false ∨ rg x = 0) then (((rhe (vl (rg x) * 1048576) K1 : Nat) : Int), 0)
  else (0, 2)
theorem units_0 (x : Nat) (w : World) (h : ∀ w, Calls Try.prog 78 #[.float .f64 x] w fun e w' => e = .returned (.int .i64 0) ∧ w = w') : Calls Try.prog 76 #[.float .f64 x] w fun e w' => e = .returned (.tuple #[.int .i64 0, .int .i64 21]) ∧ w = w' := by
  have H := Lib.hid h; clear h
  go_enter Try.func76, Try.ntmps76
  go_wp2_with (go_at_call 78; refine (H.out _).mono ?_; rintro e w' ⟨rfl, rfl⟩)
  go_ret2
  exact ⟨rfl, rfl⟩
theorem units_2 (x : Nat) (k : Int) (hk : k = 1 ∨ k = 2 ∨ k = 6) (w : World) (h : ∀ w, Calls Try.prog 78 #[.float .f64 x] w fun e w' => e = .returned (.int .i64 k) ∧ w = w') : Calls Try.prog 76 #[.float .f64 x] w fun e w' => e = .returned (.tuple #[.int .i64 0, .int .i64 2]) ∧ w = w' := by
  have H := Lib.hid h; clear h
  rcases hk with rfl | rfl | rfl
  all_goals
    go_enter Try.func76, Try.ntmps76
    go_wp2_with (go_at_call 78; refine (H.out _).mono ?_; rintro e w' ⟨rfl, rfl⟩)
    go_ret2
    exact ⟨rfl, rfl⟩
theorem units_far (x : Nat) (w : World) (h : ∀ w, Calls Try.prog 78 #[.float .f64 x] w fun e w' => e = .returned (.int .i64 5) ∧ w = w') (h1 : (FloatKind.f64.format.order x 4607182418800017408 == some Ordering.gt) = true) : Calls Try.prog 76 #[.float .f64 x] w fun e w' => e = .returned (.tuple #[.int .i64 0, .int .i64 2]) ∧ w = w' := by
  have H := Lib.hid h; clear h
  go_enter Try.func76, Try.ntmps76
  go_wp2_with (go_at_call 78; refine (H.out _).mono ?_; rintro e w' ⟨rfl, rfl⟩)
  go_ret2
  exact ⟨rfl, rfl⟩
theorem units_in (x y z : Nat) (k n : Int) (hk : k = 3 ∨ k = 4 ∨ k = 5) (w : World) (h : ∀ w, Calls Try.prog 78 #[.float .f64 x] w fun e w' => e = .returned (.int .i64 k) ∧ w = w') (h1 : (FloatKind.f64.format.order x 4607182418800017408 == some Ordering.gt) = false)
    (hl : ∀ w, Calls Try.prog 132 #[.float .f64 x, .int .i64 20] w fun e w' => e = .returned (.float .f64 y) ∧ w = w') (hr : ∀ w, Sem.run Try.prog (callFunc 131 #[.float .f64 y]) w = .ok (.value (.float .f64 z)) w) (hn : floatToIntVal .f64 z .i64 = some n) :
    Calls Try.prog 76 #[.float .f64 x] w fun e w' => e = .returned (.tuple #[.int .i64 n, .int .i64 0]) ∧ w = w' := by
  have H := Lib.hid h; have HL := Lib.hid hl; clear h hl
  have hc := fun w => run_convert_float_int (P := Try.prog) w 79 3 .f64 .i64 z n (by kernel_rfl) (by kernel_rfl) hn
  clear hn
  rcases hk with rfl | rfl | rfl
  all_goals
    go_enter Try.func76, Try.ntmps76
    go_wp2_with (first | (go_at_call 78; refine (H.out _).mono ?_; rintro e w' ⟨rfl, rfl⟩) | (go_at_call 132; refine (HL.out _).mono ?_; rintro e w' ⟨rfl, rfl⟩))
    go_ret2
    exact ⟨rfl, rfl⟩
theorem one_gt {x : Nat} (h : rg x ≤ 9218868437227405312) (hn : ng x = false) : (FloatKind.f64.format.order x 4607182418800017408 == some Ordering.gt) = decide (4607182418800017408 < rg x) := by
  rw [fo_sv h (by decide), sv_of hn rfl, sv_of (x := 4607182418800017408) (r := 4607182418800017408) (by decide) (by decide)]
  rcases Nat.lt_trichotomy (rg x) 4607182418800017408 with h1 | h1 | h1
  · rw [Int.compare_eq_lt.2 (by have := vl_lt h1; omega), decide_eq_false (by omega)]; rfl
  · rw [h1, cmp_eq]; rfl
  · rw [Int.compare_eq_gt.2 (by have := vl_lt h1; omega), decide_eq_true h1]; rfl
theorem nul_gt {x : Nat} (h : rg x = 0) : (FloatKind.f64.format.order x 4607182418800017408 == some Ordering.gt) = false := by
  rw [fo_sv (by omega) (by decide), sv_nul h, sv_one, Int.compare_eq_lt.2 (by have := pw_pos 1074; omega)]; rfl
theorem units_calls (x : Nat) (hx : x < 18446744073709551616) (w : World) : Calls Try.prog 76 #[.float .f64 x] w fun e w' => e = .returned (.tuple #[.int .i64 (un x).1, .int .i64 (un x).2]) ∧ w = w' := by
  unfold un
  by_cases h0 : 9218868437227405312 < rg x
  · rw [if_pos h0]
    exact units_0 x w (kind_is hx (by unfold cl; rw [if_pos h0]))
  rw [if_neg h0]
  by_cases h1 : rg x ≤ 4607182418800017408 ∧ (ng x = false ∨ rg x = 0)
  · rw [if_pos h1]
    obtain ⟨r, u1, u2, u3⟩ := up20 (x := x) h1
    have hy : rg (double.word (ng x) r) = r := word_rg _ (by omega)
    have hny : ng (double.word (ng x) r) = ng x := word_ng _ (by omega)
    have hs : ng (double.word (ng x) r) = false ∨ rg (double.word (ng x) r) = 0 := by
      rcases h1.2 with h2 | h2
      · exact .inl (hny.trans h2)
      · right; rw [hy]; refine vl_inj ?_; rw [u2, h2, vl_zero, Nat.zero_mul]
    obtain ⟨z, z1, z2⟩ := round_val hs (by rw [hy]; exact u3)
    rw [hy, u2] at z2
    have hc : cl x = 3 ∨ cl x = 4 ∨ cl x = 5 := by
      unfold cl
      rw [if_neg h0, if_neg (by have := h1.1; omega)]
      by_cases h2 : rg x = 0
      · rw [if_pos h2]; cases ng x <;> simp
      · rw [if_neg h2, h1.2.resolve_right h2]; simp
    refine units_in x (double.word (ng x) r) z (cl x) _ hc w (kind_is hx rfl) ?_ (ldexp_up hx h1 u1) (fun w => by rw [round_run _ (by rw [hy]; omega), z1]) z2
    by_cases h2 : rg x = 0
    · exact nul_gt h2
    · rw [one_gt (by omega) (h1.2.resolve_right h2)]; exact decide_eq_false (by have := h1.1; omega)
  · rw [if_neg h1]
    have h2 : rg x ≠ 0 := fun hc => h1 ⟨by omega, .inr hc⟩
    by_cases h3 : rg x = 9218868437227405312
    · refine units_2 x (cl x) ?_ w (kind_is hx rfl)
      unfold cl; rw [if_neg h0, if_pos h3]; cases ng x <;> simp
    · cases hn : ng x
      · refine units_far x w (kind_is hx ?_) ?_
        · unfold cl; rw [if_neg h0, if_neg h3, if_neg h2, hn]; rfl
        · rw [one_gt (by omega) hn]; exact decide_eq_true (Nat.lt_of_not_le fun hc => h1 ⟨hc, .inl hn⟩)
      · refine units_2 x 2 (by omega) w (kind_is hx ?_)
        unfold cl; rw [if_neg h0, if_neg h3, if_neg h2, hn]; rfl
end Go.Proofs.Ytclfambjkolckaa.Fl
-- part: ShareW2
namespace Go.Proofs.Ytclfambjkolckaa.Fl
open Go Go.RowKit Ieee Go.Proofs.Ytclfambjkolckaa.ShareM
set_option linter.unusedVariables false
set_option linter.unusedSimpArgs false
set_option maxRecDepth 20000
/-- a number, 20 down -/
def ofv (m : Nat) : Nat := double.nearest false m (-20)
theorem ofv_vl {m : Nat} (h : m ≤ 1048576) : vl (ofv m) = m * pw 1054 ∧ ofv m ≤ 4607182418800017408 := by
  unfold ofv
  by_cases h0 : m = 0
  · subst h0; rw [nearest_zero, word_false, vl_zero, Nat.zero_mul]; exact ⟨rfl, by omega⟩
  · obtain ⟨r, h1, h2, h3⟩ := nearest_vl false m 0 1054 (-20) h0 (by omega) (by omega) (by omega)
    rw [Nat.pow_zero, Nat.mul_one, word_false] at h1
    rw [h1]
    refine ⟨h2, Nat.le_of_not_lt fun hc => ?_⟩
    have h4 := vl_lt hc
    have h5 := vl_at 1023 0 (by omega) (by omega)
    rw [show (1023 * 4503599627370496 + 0 : Nat) = 4607182418800017408 by omega, Nat.add_zero, ← pw_52, ← pw_add, show 52 + (1023 - 1) = 20 + 1054 by omega, pw_add] at h5
    rw [h5, h2] at h4
    have h6 : m * pw 1054 ≤ pw 20 * pw 1054 := Nat.mul_le_mul_right _ h
    omega
theorem fl_word {m : Nat} (h : m < 9007199254740992) : ∃ r, floatOfInt .f64 (m : Int) = r ∧ rg r = r ∧ ng r = false ∧ vl r = m * K1 ∧ r < 9218868437227405312 := by
  obtain ⟨r, h1, h2⟩ := fl_sv h
  exact ⟨r, h1, h2⟩
/-- Ldexp of a number, 20 down -/
theorem ldexp_of {m : Nat} (h : m ≤ 1048576) (w : World) : Calls Try.prog 132 #[.float .f64 (floatOfInt .f64 (m : Int)), .int .i64 (-20)] w fun e w' => e = .returned (.float .f64 (ofv m)) ∧ w = w' := by
  obtain ⟨f, f1, f2, f3, f4, f5⟩ := fl_word (m := m) (by omega)
  rw [f1]
  refine ldexp_top f _ (-20) w ?_
  by_cases h0 : m = 0
  · subst h0
    rw [Nat.zero_mul] at f4
    have : f = 0 := vl_inj (by rw [f4, vl_zero])
    subst this
    exact ldexp_zero 0 (-20) w (by decide)
  · have hf : 4607182418800017408 ≤ f := by
      refine Nat.le_of_not_lt fun hc => ?_
      have h4 := vl_lt hc
      have h5 := vl_at 1023 0 (by omega) (by omega)
      rw [show (1023 * 4503599627370496 + 0 : Nat) = 4607182418800017408 by omega, Nat.add_zero, ← pw_52, ← pw_add, show 52 + (1023 - 1) = 1074 by omega] at h5
      rw [h5, f4] at h4
      have h6 : 1 * K1 ≤ m * K1 := Nat.mul_le_mul_right _ (by omega)
      unfold K1 at *
      omega
    have hb := ldexp_n (x := f) (-20) (by omega) (by omega) f5 (E := f / 4503599627370496 - 20) (by omega) (by omega) (by omega) w
    have e : ofv m = (f / 4503599627370496 - 20) * 4503599627370496 + f % 4503599627370496 := by
      refine vl_inj ?_
      have e1 := vl_at (f / 4503599627370496 - 20) (f % 4503599627370496) (by omega) (by omega)
      have e2 := vl_at (f / 4503599627370496) (f % 4503599627370496) (by omega) (by omega)
      rw [show f / 4503599627370496 * 4503599627370496 + f % 4503599627370496 = f by omega, f4] at e2
      refine Nat.eq_of_mul_eq_mul_right (pw_pos 20) ?_
      rw [e1, (ofv_vl h).1, Nat.mul_assoc, Nat.mul_assoc, ← pw_add, ← pw_add, show f / 4503599627370496 - 20 - 1 + 20 = f / 4503599627370496 - 1 by omega, ← e2]
      rfl
    rw [e]; exact hb
theorem of_calls (n : Int) (m : Nat) (hm : (m : Int) = max 0 (min n 1048576)) (w : World) : Calls Try.prog 83 #[.int .i64 n] w fun e w' => e = .returned (.float .f64 (ofv m)) ∧ w = w' := by
  have hl : ∀ z : Int, z = (m : Int) → ∀ w, Calls Try.prog 132 #[.float .f64 (floatOfInt .f64 z), .int .i64 (-20)] w fun e w' => e = .returned (.float .f64 (ofv m)) ∧ w = w' := fun z hz w => by
    subst hz; exact ldexp_of (m := m) (by omega) w
  have HL := Lib.hid hl; clear hl
  by_cases h1 : n ≤ 0
  · have HM : Hid ((0 : Int) = m) := Lib.hid (by omega)
    have h2 : ¬ (1048576 < n) := by omega
    have h3 : ¬ (0 < n) := by omega
    clear hm h1
    go_enter Try.func83, Try.ntmps83
    go_wp2_with (go_at_call 132; refine (HL.out _ HM.out _).mono ?_; rintro e w' ⟨rfl, rfl⟩)
    go_ret
    exact ⟨rfl, rfl⟩
  · by_cases h2 : 1048576 < n
    · have HM : Hid ((1048576 : Int) = m) := Lib.hid (by omega)
      clear hm h1
      go_enter Try.func83, Try.ntmps83
      go_wp2_with (go_at_call 132; refine (HL.out _ HM.out _).mono ?_; rintro e w' ⟨rfl, rfl⟩)
      go_ret
      exact ⟨rfl, rfl⟩
    · have HM : Hid (n = m) := Lib.hid (by omega)
      have h3 : 0 < n := by omega
      clear hm h1
      go_enter Try.func83, Try.ntmps83
      go_wp2_with (go_at_call 132; refine (HL.out _ HM.out _).mono ?_; rintro e w' ⟨rfl, rfl⟩)
      go_ret
      exact ⟨rfl, rfl⟩
/-- between nought and one -/
def clv (x : Nat) : Nat :=
  if 9218868437227405312 < rg x ∨ ng x = true ∨ rg x = 0 then 0 else if 4607182418800017408 < rg x then 4607182418800017408 else x
theorem clamp_0 (x : Nat) (k : Int) (h5 : (k == 5) = false) (h6 : (k == 6) = false) (w : World) (h : ∀ w, Calls Try.prog 78 #[.float .f64 x] w fun e w' => e = .returned (.int .i64 k) ∧ w = w') : Calls Try.prog 85 #[.float .f64 x] w fun e w' => e = .returned (.float .f64 0) ∧ w = w' := by
  have H := Lib.hid h; clear h
  go_enter Try.func85, Try.ntmps85
  go_wp2_with (go_at_call 78; refine (H.out _).mono ?_; rintro e w' ⟨rfl, rfl⟩)
  go_ret
  exact ⟨rfl, rfl⟩
theorem min_run (x r : Nat) (h : ∀ w, Sem.run Try.prog (Go.Builtin.min_ #[79, 79] 79 #[.float .f64 x, .float .f64 4607182418800017408]) w = .ok (.float .f64 r) w) (k : Int) (hk : k = 5 ∨ k = 6) (w : World) (hc : ∀ w, Calls Try.prog 78 #[.float .f64 x] w fun e w' => e = .returned (.int .i64 k) ∧ w = w') : Calls Try.prog 85 #[.float .f64 x] w fun e w' => e = .returned (.float .f64 r) ∧ w = w' := by
  have H := Lib.hid hc; clear hc
  rcases hk with rfl | rfl
  all_goals
    go_enter Try.func85, Try.ntmps85
    go_wp2_with (go_at_call 78; refine (H.out _).mono ?_; rintro e w' ⟨rfl, rfl⟩)
    go_ret
    exact ⟨rfl, rfl⟩
def mino (o : Ordering) (x y : Nat) : Nat := match o with | .lt => x | .gt => y | .eq => if (FloatKind.f64.decode x).neg then x else y
theorem min_of (x y : Nat) (o : Ordering) (h : FloatKind.f64.format.order x y = some o) (ts : Array TypeId) (t : TypeId) (w : World) : Sem.run Try.prog (Go.Builtin.min_ ts t #[.float .f64 x, .float .f64 y]) w = .ok (.float .f64 (mino o x y)) w := by
  have e : Go.Builtin.min2 (.float .f64 x) (.float .f64 y) = (match FloatKind.f64.format.order x y with
    | none => do pure (.float .f64 (← choose (.nanMinMax .f64 false x y)))
    | some .lt => pure (.float .f64 x)
    | some .gt => pure (.float .f64 y)
    | some .eq => pure (.float .f64 (if (FloatKind.f64.decode x).neg then x else y))) := rfl
  have e0 : Go.Builtin.min_ ts t #[.float .f64 x, .float .f64 y] = (Go.Builtin.min2 (.float .f64 x) (.float .f64 y) >>= fun s => List.foldlM Go.Builtin.min2 s []) := rfl
  rw [e0, e, h]
  cases o <;> rfl
theorem clamp_calls (x : Nat) (hx : x < 18446744073709551616) (w : World) : Calls Try.prog 85 #[.float .f64 x] w fun e w' => e = .returned (.float .f64 (clv x)) ∧ w = w' := by
  unfold clv
  by_cases h0 : 9218868437227405312 < rg x ∨ ng x = true ∨ rg x = 0
  · rw [if_pos h0]
    have hc : cl x ≠ 5 ∧ cl x ≠ 6 := by
      unfold cl
      by_cases h1 : 9218868437227405312 < rg x
      · rw [if_pos h1]; omega
      · rw [if_neg h1]
        rcases h0.resolve_left h1 with h2 | h2
        · rw [h2]; split
          · simp
          · split <;> simp
        · rw [if_neg (by omega), if_pos h2]; cases ng x <;> simp
    exact clamp_0 x (cl x) (beq_eq_false_iff_ne.2 hc.1) (beq_eq_false_iff_ne.2 hc.2) w (kind_is hx rfl)
  · rw [if_neg h0]
    have h1 : rg x ≤ 9218868437227405312 := by omega
    have hn : ng x = false := by
      cases hb : ng x
      · rfl
      · exact absurd (.inr (.inl hb)) h0
    have h2 : rg x ≠ 0 := fun hc => h0 (.inr (.inr hc))
    have hc : cl x = 5 ∨ cl x = 6 := by
      unfold cl
      rw [if_neg (by omega), hn, if_neg h2]
      split <;> simp
    have hxr : rg x = x := by have := of_word hx; rw [hn, word_false] at this; exact this
    refine min_run x _ (fun w => ?_) (cl x) hc w (kind_is hx rfl)
    by_cases h3 : 4607182418800017408 < rg x
    · rw [if_pos h3]
      have ho : FloatKind.f64.format.order x 4607182418800017408 = some .gt := by
        rw [fo_sv h1 (by decide), sv_of hn rfl, sv_of (x := 4607182418800017408) (r := 4607182418800017408) (by decide) (by decide), Int.compare_eq_gt.2 (by have := vl_lt h3; omega)]
      rw [min_of x _ _ ho]; rfl
    · rw [if_neg h3]
      rcases Nat.lt_or_eq_of_le (Nat.le_of_not_lt h3) with h4 | h4
      · have ho : FloatKind.f64.format.order x 4607182418800017408 = some .lt := by
          rw [fo_sv h1 (by decide), sv_of hn rfl, sv_of (x := 4607182418800017408) (r := 4607182418800017408) (by decide) (by decide), Int.compare_eq_lt.2 (by have := vl_lt h4; omega)]
        rw [min_of x _ _ ho]; rfl
      · rw [hxr] at h4
        subst h4
        rw [min_of 4607182418800017408 4607182418800017408 .eq (by decide)]; rfl
/-- the same float -/
def smv (x y : Nat) : Bool := (decide (9218868437227405312 < rg x) && decide (9218868437227405312 < rg y)) || decide (x = y)
theorem nan_dec (x : Nat) : (FloatKind.f64.format.order x x != some Ordering.eq) = decide (9218868437227405312 < rg x) := by
  by_cases h : 9218868437227405312 < rg x
  · rw [t_nan h, decide_eq_true h]
  · rw [t_num (by omega), decide_eq_false h]
theorem isNaN_is (x : Nat) (b : Bool) (h : decide (9218868437227405312 < rg x) = b) (w : World) : Calls Try.prog 133 #[.float .f64 x] w fun e w' => e = .returned (.bool b) ∧ w = w' :=
  (isNaN_calls x w).mono fun e w' he => ⟨by rw [he.1, nan_dec, h], he.2⟩
set_option maxHeartbeats 1000000 in
theorem same_calls (x y : Nat) (w : World) : Calls Try.prog 80 #[.float .f64 x, .float .f64 y] w fun e w' => e = .returned (.bool (smv x y)) ∧ w = w' := by
  have main : ∀ a b c : Bool, decide (9218868437227405312 < rg x) = a → decide (9218868437227405312 < rg y) = b → ((x : Int) == (y : Int)) = c → Calls Try.prog 80 #[.float .f64 x, .float .f64 y] w fun e w' => e = .returned (.bool ((a && b) || c)) ∧ w = w' := by
    intro a b c ha hb hc
    have HA := Lib.hid ha; have HB := Lib.hid hb; clear ha hb
    have h := f64bits
    cases a <;> cases b <;> cases c <;>
    (go_enter Try.func80, Try.ntmps80
     go_wp2_with (first | ((with_reducible refine (isNaN_is x _ HA.out _).mono ?_); rintro e w' ⟨rfl, rfl⟩) | ((with_reducible refine (isNaN_is y _ HB.out _).mono ?_); rintro e w' ⟨rfl, rfl⟩))
     go_ret
     exact ⟨rfl, rfl⟩)
  have e : ((x : Int) == (y : Int)) = decide (x = y) := by
    by_cases h : x = y
    · subst h; simp
    · rw [decide_eq_false h]; exact beq_eq_false_iff_ne.2 (by omega)
  have := main _ _ _ rfl rfl rfl
  rw [e] at this
  exact this
/-- which one stands ahead -/
def lsv (x y : Nat) : Bool := if cl x = cl y then (FloatKind.f64.format.order x y == some Ordering.lt) else decide (cl x < cl y)
theorem less_calls (x y : Nat) (hx : x < 18446744073709551616) (hy : y < 18446744073709551616) (w : World) : Calls Try.prog 81 #[.float .f64 x, .float .f64 y] w fun e w' => e = .returned (.bool (lsv x y)) ∧ w = w' := by
  have main : ∀ a b : Int, cl x = a → cl y = b → Calls Try.prog 81 #[.float .f64 x, .float .f64 y] w fun e w' => e = .returned (.bool (if a = b then (FloatKind.f64.format.order x y == some Ordering.lt) else decide (a < b))) ∧ w = w' := by
    intro a b ha hb
    have HA := Lib.hid ha; have HB := Lib.hid hb; clear ha hb
    by_cases hab : a = b
    · rw [if_pos hab]
      have h1 : (a != b) = false := bne_eq_false_iff_eq.2 hab
      clear hab
      go_enter Try.func81, Try.ntmps81
      go_wp2_with (first | ((with_reducible refine (kind_is (k := a) hx HA.out _).mono ?_); rintro e w' ⟨rfl, rfl⟩) | ((with_reducible refine (kind_is (k := b) hy HB.out _).mono ?_); rintro e w' ⟨rfl, rfl⟩))
      go_ret
      exact ⟨rfl, rfl⟩
    · rw [if_neg hab]
      have h1 : (a != b) = true := bne_iff_ne.2 hab
      clear hab
      go_enter Try.func81, Try.ntmps81
      go_wp2_with (first | ((with_reducible refine (kind_is (k := a) hx HA.out _).mono ?_); rintro e w' ⟨rfl, rfl⟩) | ((with_reducible refine (kind_is (k := b) hy HB.out _).mono ?_); rintro e w' ⟨rfl, rfl⟩))
      go_ret
      exact ⟨rfl, rfl⟩
  exact main _ _ rfl rfl
end Go.Proofs.Ytclfambjkolckaa.Fl
-- part: ShareR
namespace Go.Proofs.Ytclfambjkolckaa.Fl
open Go Go.RowKit Ieee Go.Proofs.Ytclfambjkolckaa.ShareM
set_option linter.unusedVariables false
set_option linter.unusedSimpArgs false
set_option maxRecDepth 20000
theorem none_is (x : Nat) (b : Bool) (h : decide (9218868437227405312 < rg x) = b) (w : World) : Calls Try.prog 129 #[.float .f64 x] w fun e w' => e = .returned (.bool b) ∧ w = w' := by
  have h1 : (FloatKind.f64.format.order x x != some Ordering.eq) = b := by rw [nan_dec, h]
  clear h
  go_enter Try.func129, Try.ntmps129
  go_wp2
  go_ret
  exact ⟨rfl, rfl⟩
theorem below_1 (x : Nat) (h1 : (FloatKind.f64.format.order x 0 == some Ordering.lt) = true) (w : World) : Calls Try.prog 130 #[.float .f64 x] w fun e w' => e = .returned (.bool true) ∧ w = w' := by
  go_enter Try.func130, Try.ntmps130
  go_wp2
  go_ret
  exact ⟨rfl, rfl⟩
theorem below_2 (x : Nat) (h1 : (FloatKind.f64.format.order x 0 == some Ordering.lt) = false) (h2 : (FloatKind.f64.format.order x 0 == some Ordering.eq) = false) (w : World) : Calls Try.prog 130 #[.float .f64 x] w fun e w' => e = .returned (.bool false) ∧ w = w' := by
  go_enter Try.func130, Try.ntmps130
  go_wp2
  go_ret
  exact ⟨rfl, rfl⟩
theorem below_3 (x r : Nat) (b : Bool) (h1 : (FloatKind.f64.format.order x 0 == some Ordering.lt) = false) (h2 : (FloatKind.f64.format.order x 0 == some Ordering.eq) = true) (hr : floatBits .quo .f64 4607182418800017408 x = some r) (h3 : (FloatKind.f64.format.order r 0 == some Ordering.lt) = b) (w : World) : Calls Try.prog 130 #[.float .f64 x] w fun e w' => e = .returned (.bool b) ∧ w = w' := by
  have hc := fun w => run_float_arith (P := Try.prog) w .quo 79 .f64 4607182418800017408 x r hr
  clear hr
  go_enter Try.func130, Try.ntmps130
  go_wp2
  go_ret
  exact ⟨rfl, rfl⟩
theorem below_is (x : Nat) (hx : x < 18446744073709551616) (hf : rg x ≤ 9218868437227405312) (w : World) : Calls Try.prog 130 #[.float .f64 x] w fun e w' => e = .returned (.bool (ng x)) ∧ w = w' := by
  by_cases h0 : rg x = 0
  · have ho := o_nul h0
    cases hn : ng x
    · have : x = 0 := by have := of_word hx; rw [hn, h0] at this; exact this.symm
      subst this
      exact below_3 0 9218868437227405312 false (by decide) (by decide) (by decide) (by decide) w
    · have : x = 9223372036854775808 := by have := of_word hx; rw [hn, h0] at this; exact this.symm
      subst this
      exact below_3 9223372036854775808 18442240474082181120 true (by decide) (by decide) (by decide) (by decide) w
  · cases hn : ng x
    · exact below_2 x (by rw [o_pos hf hn h0]; rfl) (by rw [o_pos hf hn h0]; rfl) w
    · exact below_1 x (by rw [o_neg hf hn h0]; rfl) w
set_option maxHeartbeats 1000000 in
theorem rsame_nan (x y : Nat) (a b : Bool) (hab : (a || b) = true) (ha : decide (9218868437227405312 < rg x) = a) (hb : decide (9218868437227405312 < rg y) = b) (w : World) : Calls Try.prog 72 #[.float .f64 x, .float .f64 y] w fun e w' => e = .returned (.bool (a && b)) ∧ w = w' := by
  have HA := Lib.hid ha; have HB := Lib.hid hb; clear ha hb
  cases a <;> cases b <;> first | exact absurd hab (by decide) |
  (clear hab
   go_enter Try.func72, Try.ntmps72
   go_wp2_with (first | ((with_reducible refine (none_is x _ HA.out _).mono ?_); rintro e w' ⟨rfl, rfl⟩) | ((with_reducible refine (none_is y _ HB.out _).mono ?_); rintro e w' ⟨rfl, rfl⟩))
   go_ret
   exact ⟨rfl, rfl⟩)
set_option maxHeartbeats 1000000 in
theorem rsame_num (x y : Nat) (hx : x < 18446744073709551616) (hy : y < 18446744073709551616) (hfx : rg x ≤ 9218868437227405312) (hfy : rg y ≤ 9218868437227405312) (c p q : Bool) (hc : (FloatKind.f64.format.order x y == some Ordering.eq) = c) (hp : ng x = p) (hq : ng y = q) (w : World) : Calls Try.prog 72 #[.float .f64 x, .float .f64 y] w fun e w' => e = .returned (.bool (c && (p == q))) ∧ w = w' := by
  have HA := Lib.hid (decide_eq_false (show ¬ 9218868437227405312 < rg x by omega)); have HB := Lib.hid (decide_eq_false (show ¬ 9218868437227405312 < rg y by omega))
  have HX := Lib.hid (fun w => (below_is x hx hfx w)); have HY := Lib.hid (fun w => (below_is y hy hfy w))
  rw [hp] at HX; rw [hq] at HY
  clear hp hq hfx hfy
  cases c <;> cases p <;> cases q <;>
  (go_enter Try.func72, Try.ntmps72
   go_wp2_with (first | ((with_reducible refine (none_is x _ HA.out _).mono ?_); rintro e w' ⟨rfl, rfl⟩) | ((with_reducible refine (none_is y _ HB.out _).mono ?_); rintro e w' ⟨rfl, rfl⟩) | ((with_reducible refine (HX.out _).mono ?_); rintro e w' ⟨rfl, rfl⟩) | ((with_reducible refine (HY.out _).mono ?_); rintro e w' ⟨rfl, rfl⟩))
   go_ret
   exact ⟨rfl, rfl⟩)
theorem eq_iff {x y : Nat} (hx : x < 18446744073709551616) (hy : y < 18446744073709551616) (hfx : rg x ≤ 9218868437227405312) (hfy : rg y ≤ 9218868437227405312) : ((FloatKind.f64.format.order x y == some Ordering.eq) && (ng x == ng y)) = decide (x = y) := by
  rw [fo_sv hfx hfy]
  by_cases h : x = y
  · subst h; rw [cmp_eq, decide_eq_true rfl]; simp
  · rw [decide_eq_false h]
    by_cases hn : ng x = ng y
    · have : sv x ≠ sv y := fun hc => h (sv_inj hx hy hc hn)
      have h2 : compare (sv x) (sv y) ≠ .eq := fun hc => this (Int.compare_eq_eq.1 hc)
      rw [hn]; simpa using h2
    · rw [show (ng x == ng y) = false from beq_eq_false_iff_ne.2 hn, Bool.and_false]
theorem rsame_calls (x y : Nat) (hx : x < 18446744073709551616) (hy : y < 18446744073709551616) (w : World) : Calls Try.prog 72 #[.float .f64 x, .float .f64 y] w fun e w' => e = .returned (.bool (smv x y)) ∧ w = w' := by
  unfold smv
  by_cases h : (decide (9218868437227405312 < rg x) || decide (9218868437227405312 < rg y)) = true
  · refine (rsame_nan x y _ _ h rfl rfl w).mono fun e w' he => ⟨?_, he.2⟩
    rw [he.1]
    congr 2
    by_cases hxy : x = y
    · subst hxy; rw [decide_eq_true rfl]; simp at h ⊢; exact h
    · rw [decide_eq_false hxy, Bool.or_false]
  · have h1 : ¬ 9218868437227405312 < rg x := fun hc => h (by rw [decide_eq_true hc]; rfl)
    have h2 : ¬ 9218868437227405312 < rg y := fun hc => h (by rw [decide_eq_true hc]; simp)
    refine (rsame_num x y hx hy (by omega) (by omega) _ _ _ rfl rfl rfl w).mono fun e w' he => ⟨?_, he.2⟩
    rw [he.1, eq_iff hx hy (by omega) (by omega), decide_eq_false h1, Bool.false_and, Bool.false_or]
theorem rclamp_calls (x : Nat) (hx : x < 18446744073709551616) (w : World) : Calls Try.prog 86 #[.float .f64 x] w fun e w' => e = .returned (.float .f64 (clv x)) ∧ w = w' := by
  have main : ∀ a b : Bool, (FloatKind.f64.format.order x 4607182418800017408 == some Ordering.gt) = a → (FloatKind.f64.format.order x 0 == some Ordering.gt) = b → Calls Try.prog 86 #[.float .f64 x] w fun e w' => e = .returned (.float .f64 (if a then 4607182418800017408 else if b then x else 0)) ∧ w = w' := by
    intro a b ha hb
    cases a <;> cases b <;>
    (go_enter Try.func86, Try.ntmps86
     go_wp2
     go_ret
     exact ⟨rfl, rfl⟩)
  refine (main _ _ rfl rfl).mono fun e w' he => ⟨?_, he.2⟩
  rw [he.1]
  congr 2
  by_cases h0 : 9218868437227405312 < rg x
  · have e0 : clv x = 0 := by unfold clv; exact if_pos (.inl h0)
    rw [fo_nan (.inl h0), fo_nan (.inl h0), e0]; rfl
  · have hf : rg x ≤ 9218868437227405312 := by omega
    by_cases h2 : rg x = 0
    · have e0 : clv x = 0 := by unfold clv; exact if_pos (.inr (.inr h2))
      rw [nul_gt h2, o_nul h2, e0]; rfl
    · cases hn : ng x
      · have e0 : clv x = if 4607182418800017408 < rg x then 4607182418800017408 else x := by unfold clv; exact if_neg (by rw [hn]; simp; omega)
        rw [one_gt hf hn, o_pos hf hn h2, e0]
        by_cases h3 : 4607182418800017408 < rg x
        · rw [decide_eq_true h3, if_pos rfl, if_pos h3]
        · rw [decide_eq_false h3, if_neg (by decide), if_neg h3]; rfl
      · have e0 : clv x = 0 := by unfold clv; exact if_pos (.inr (.inl hn))
        rw [o_neg hf hn h2, e0, fo_sv hf (by decide), sv_one, Int.compare_eq_lt.2 (by have := sv_neg hn h2; have := pw_pos 1074; omega)]; rfl
end Go.Proofs.Ytclfambjkolckaa.Fl
-- part: ShareD
namespace Go.Proofs.Ytclfambjkolckaa.Fl
open Go Go.RowKit Ieee Go.Proofs.Ytclfambjkolckaa.ShareM
set_option linter.unusedVariables false
set_option linter.unusedSimpArgs false
set_option maxRecDepth 20000
theorem div_pow {x : Nat} (k : Nat) (hk : k < 1000) (hx : rg x < 9218868437227405312) (h0 : mg (rg x) ≠ 0) :
    double.div x ((1023 + k) * 4503599627370496) = some (double.nearest (ng x) (mg (rg x) * 2 ^ (55 - (mg (rg x)).log2)) (-1074 + (sh (rg x) : Nat) - k - 55 + ((mg (rg x)).log2 : Nat))) := by
  unfold Format.div
  rw [read_fin hx, read_pow k hk]
  have hL := log2_le _ h0 (mg_lt (rg x))
  generalize hm : mg (rg x) = m at h0 hL
  simp only [Datum.quotient, frac_]
  rw [if_neg (by omega)]
  simp only [Option.map_some, Format.write, Bool.xor_false]
  have e1 : (4503599627370496 : Nat).log2 = 52 := by decide
  rw [e1, show 52 + 2 + 52 - m.log2 = (54 - m.log2) + 52 by omega, Nat.shiftLeft_eq, Nat.pow_add, ← Nat.mul_assoc, show (2 ^ 52 : Nat) = 4503599627370496 by decide, Nat.mul_div_cancel _ (by omega), Nat.mul_mod_left]
  have e2 : 2 * (m * 2 ^ (54 - m.log2)) + (0 != 0 : Bool).toNat = m * 2 ^ (55 - m.log2) := by
    rw [show 55 - m.log2 = (54 - m.log2) + 1 by omega, Nat.pow_succ, Nat.mul_comm _ 2, Nat.mul_left_comm m 2]
    simp only [bne_self_eq_false, Bool.toNat_false, Nat.add_zero]
  rw [e2]
  congr 2
  omega
theorem half_ne {x : Nat} (hx : rg x < 9218868437227405312) (h0 : rg x ≠ 0) : ∃ h, floatBits .quo .f64 x 4611686018427387904 = some h ∧ (FloatKind.f64.format.order x h == some Ordering.eq) = false := by
  have hm0 : mg (rg x) ≠ 0 := fun hc => h0 (mg_zero hc)
  have hd := div_pow 1 (by omega) hx hm0
  show ∃ h, double.div x 4611686018427387904 = some h ∧ _
  have fin : ∀ r', r' < 9218868437227405312 → vl r' ≠ vl (rg x) → (FloatKind.f64.format.order x (double.word (ng x) r') == some Ordering.eq) = false := fun r' hr hne => by
    rw [fo_sv (by omega) (by rw [word_rg _ (by omega)]; omega)]
    have : sv x ≠ sv (double.word (ng x) r') := fun hc => by
      unfold sv at hc
      rw [word_ng _ (by omega), word_rg _ (by omega)] at hc
      cases hn : ng x <;> rw [hn] at hc <;> simp at hc <;> omega
    have h2 : compare (sv x) (sv (double.word (ng x) r')) ≠ .eq := fun hc => this (Int.compare_eq_eq.1 hc)
    simpa using h2
  refine ⟨_, hd, ?_⟩
  have hL := log2_le _ hm0 (mg_lt (rg x))
  by_cases hs : 1 ≤ sh (rg x)
  · obtain ⟨r, h1, h2, h3⟩ := nearest_vl (ng x) (mg (rg x)) (55 - (mg (rg x)).log2) (sh (rg x) - 1) (-1074 + (sh (rg x) : Nat) - (1 : Nat) - 55 + ((mg (rg x)).log2 : Nat)) hm0 (mg_lt _) (by omega) (by unfold sh; omega)
    rw [h1]
    refine fin r h3 ?_
    rw [h2, vl_pw]
    have e : pw (sh (rg x)) = pw (sh (rg x) - 1) * 2 := by
      have := pw_add (sh (rg x) - 1) 1
      rw [Nat.sub_add_cancel hs] at this
      rw [this]; rfl
    rw [e]
    have hp := pw_pos (sh (rg x) - 1)
    have h4 : mg (rg x) * pw (sh (rg x) - 1) ≠ 0 := Nat.mul_ne_zero hm0 (by omega)
    rw [← Nat.mul_assoc]
    omega
  · have hs0 : sh (rg x) = 0 := by omega
    have hr : rg x ≤ 9007199254740992 := by unfold sh at hs0; omega
    have hm : mg (rg x) = rg x := by
      have := vl_small hr
      rw [vl_pw, hs0, show pw 0 = 1 from rfl, Nat.mul_one] at this
      exact this
    rw [hs0]
    rw [hm] at hL ⊢
    generalize hr0 : rg x = r at *
    unfold Format.nearest
    rw [if_neg (Nat.mul_ne_zero h0 (by have := Nat.pow_pos (n := 55 - r.log2) (show 0 < 2 by omega); omega))]
    simp only [frac_, least_, binade_, inf_]
    rw [log2_mul_pow r _ h0, show max (-1074 + ((0 : Nat) : Int) - ((1 : Nat) : Int) - 55 + ((r.log2 : Nat) : Int) + ((r.log2 + (55 - r.log2) : Nat) : Int) - ((52 : Nat) : Int)) (-1074) = -1074 by omega]
    rw [show (-1074 + ((0 : Nat) : Int) - ((1 : Nat) : Int) - 55 + ((r.log2 : Nat) : Int) - -1074).toNat = 0 by omega, Nat.shiftLeft_zero, show (-1074 - (-1074 + ((0 : Nat) : Int) - ((1 : Nat) : Int) - 55 + ((r.log2 : Nat) : Int))).toNat = 1 + (55 - r.log2) by omega, cut_even, Nat.pow_add, rhe_mul _ _ _ (Nat.pow_pos (by omega))]
    have e3 : rhe r (2 ^ 1) < r := by
      unfold rhe
      have : (2 ^ 1 : Nat) = 2 := rfl
      rw [this]
      split <;> omega
    rw [show ((-1074 : Int) - -1074).toNat = 0 by omega, Nat.zero_mul, Nat.zero_add, Nat.min_eq_left (by omega)]
    refine fin _ (by omega) ?_
    have := vl_lt e3
    omega
theorem half_inf {x : Nat} (hx : x < 18446744073709551616) (h : rg x = 9218868437227405312) : floatBits .quo .f64 x 4611686018427387904 = some x ∧ (FloatKind.f64.format.order x x == some Ordering.eq) = true := by
  refine ⟨?_, by rw [fo_sv (by omega) (by omega), cmp_eq]; rfl⟩
  show double.div x 4611686018427387904 = some x
  unfold Format.div
  rw [read_inf h, show double.read 4611686018427387904 = .number false 4503599627370496 (-51) by decide]
  simp only [Datum.quotient, Option.map_some, Format.write, Bool.xor_false, inf_]
  rw [← h, of_word hx]
set_option maxHeartbeats 1000000 in
theorem rkind_nan (x : Nat) (h : 9218868437227405312 < rg x) (w : World) : Calls Try.prog 79 #[.float .f64 x] w fun e w' => e = .returned (.int .i64 0) ∧ w = w' := by
  have HA := Lib.hid (decide_eq_true h); clear h
  go_enter Try.func79, Try.ntmps79
  go_wp2_with ((with_reducible refine (none_is x _ HA.out _).mono ?_); rintro e w' ⟨rfl, rfl⟩)
  go_ret
  exact ⟨rfl, rfl⟩
set_option maxHeartbeats 2000000 in
theorem rkind_num (x r : Nat) (o : Ordering) (f b : Bool) (h : rg x ≤ 9218868437227405312) (ho : FloatKind.f64.format.order x 0 = some o) (hne : o ≠ .eq) (hr : floatBits .quo .f64 x 4611686018427387904 = some r) (hf : (FloatKind.f64.format.order x r == some Ordering.eq) = f) (w : World) :
    Calls Try.prog 79 #[.float .f64 x] w fun e w' => e = .returned (.int .i64 (if f then (if o = .lt then 1 else 6) else (if o = .lt then 2 else 5))) ∧ w = w' := by
  have HA := Lib.hid (decide_eq_false (show ¬ 9218868437227405312 < rg x by omega)); clear h
  have hc := fun w => run_float_arith (P := Try.prog) w .quo 79 .f64 x 4611686018427387904 r hr
  clear hr
  cases o <;> cases f <;> first | exact absurd rfl hne |
  (clear hne
   have t1 : (FloatKind.f64.format.order x 0 != some Ordering.eq) = true := by rw [ho]; rfl
   go_enter Try.func79, Try.ntmps79
   go_wp2_with ((with_reducible refine (none_is x _ HA.out _).mono ?_); rintro e w' ⟨rfl, rfl⟩)
   go_ret
   exact ⟨rfl, rfl⟩)
theorem rkind_nul (x : Nat) (hx : x < 18446744073709551616) (p : Bool) (h : rg x = 0) (hp : ng x = p) (w : World) : Calls Try.prog 79 #[.float .f64 x] w fun e w' => e = .returned (.int .i64 (if p then 3 else 4)) ∧ w = w' := by
  have HA := Lib.hid (decide_eq_false (show ¬ 9218868437227405312 < rg x by omega))
  have HX := Lib.hid (fun w => (below_is x hx (by omega) w)); rw [hp] at HX; clear hp
  have t1 : (FloatKind.f64.format.order x 0 != some Ordering.eq) = false := by rw [o_nul h]; rfl
  clear h
  cases p <;>
  (go_enter Try.func79, Try.ntmps79
   go_wp2_with (first | ((with_reducible refine (none_is x _ HA.out _).mono ?_); rintro e w' ⟨rfl, rfl⟩) | ((with_reducible refine (HX.out _).mono ?_); rintro e w' ⟨rfl, rfl⟩))
   go_ret
   exact ⟨rfl, rfl⟩)
theorem rkind_is {x : Nat} {k : Int} (hx : x < 18446744073709551616) (h : cl x = k) (w : World) : Calls Try.prog 79 #[.float .f64 x] w fun e w' => e = .returned (.int .i64 k) ∧ w = w' := by
  subst h
  unfold cl
  by_cases h0 : 9218868437227405312 < rg x
  · rw [if_pos h0]; exact rkind_nan x h0 w
  rw [if_neg h0]
  have hf : rg x ≤ 9218868437227405312 := by omega
  by_cases h2 : rg x = 0
  · rw [if_neg (by omega), if_pos h2]
    have := rkind_nul x hx (ng x) h2 rfl w
    exact this
  · have ho : FloatKind.f64.format.order x 0 = some (if ng x then .lt else .gt) := by
      cases hn : ng x
      · exact o_pos hf hn h2
      · exact o_neg hf hn h2
    by_cases h1 : rg x = 9218868437227405312
    · obtain ⟨a, b⟩ := half_inf hx h1
      have := rkind_num x x _ true false hf ho (by cases ng x <;> simp) a b w
      rw [if_pos h1]
      cases hn : ng x <;> rw [hn] at this <;> exact this
    · obtain ⟨r, a, b⟩ := half_ne (by omega) h2
      have := rkind_num x r _ false false hf ho (by cases ng x <;> simp) a b w
      rw [if_neg h1, if_neg h2]
      cases hn : ng x <;> rw [hn] at this <;> exact this
theorem rless_calls (x y : Nat) (hx : x < 18446744073709551616) (hy : y < 18446744073709551616) (w : World) : Calls Try.prog 82 #[.float .f64 x, .float .f64 y] w fun e w' => e = .returned (.bool (lsv x y)) ∧ w = w' := by
  have main : ∀ (a b : Int) (c : Bool), cl x = a → cl y = b → (FloatKind.f64.format.order x y == some Ordering.lt) = c → Calls Try.prog 82 #[.float .f64 x, .float .f64 y] w fun e w' => e = .returned (.bool (if a = b then c else decide (a < b))) ∧ w = w' := by
    intro a b c ha hb hc
    have HA := Lib.hid ha; have HB := Lib.hid hb; clear ha hb
    rcases Int.lt_trichotomy a b with h | h | h
    · rw [if_neg (by omega), decide_eq_true h]
      go_enter Try.func82, Try.ntmps82
      go_wp2_with (first | ((with_reducible refine (rkind_is (k := a) hx HA.out _).mono ?_); rintro e w' ⟨rfl, rfl⟩) | ((with_reducible refine (rkind_is (k := b) hy HB.out _).mono ?_); rintro e w' ⟨rfl, rfl⟩))
      go_ret
      exact ⟨rfl, rfl⟩
    · rw [if_pos h]
      have h1 : (a == b) = true := beq_iff_eq.2 h
      have h2 : decide (a < b) = false := decide_eq_false (by omega)
      clear h
      cases c <;>
      (go_enter Try.func82, Try.ntmps82
       go_wp2_with (first | ((with_reducible refine (rkind_is (k := a) hx HA.out _).mono ?_); rintro e w' ⟨rfl, rfl⟩) | ((with_reducible refine (rkind_is (k := b) hy HB.out _).mono ?_); rintro e w' ⟨rfl, rfl⟩))
       go_ret
       exact ⟨rfl, rfl⟩)
    · rw [if_neg (by omega), decide_eq_false (by omega)]
      have h1 : (a == b) = false := beq_eq_false_iff_ne.2 (by omega)
      have h2 : decide (a < b) = false := decide_eq_false (by omega)
      go_enter Try.func82, Try.ntmps82
      go_wp2_with (first | ((with_reducible refine (rkind_is (k := a) hx HA.out _).mono ?_); rintro e w' ⟨rfl, rfl⟩) | ((with_reducible refine (rkind_is (k := b) hy HB.out _).mono ?_); rintro e w' ⟨rfl, rfl⟩))
      go_ret
      exact ⟨rfl, rfl⟩
  exact main _ _ _ rfl rfl rfl
end Go.Proofs.Ytclfambjkolckaa.Fl
-- part: ShareU
namespace Go.Proofs.Ytclfambjkolckaa.Fl
open Go Go.RowKit Ieee Go.Proofs.Ytclfambjkolckaa.ShareM
set_option linter.unusedVariables false
set_option linter.unusedSimpArgs false
set_option maxRecDepth 20000
theorem runits_nan (x : Nat) (h : 9218868437227405312 < rg x) (w : World) : Calls Try.prog 77 #[.float .f64 x] w fun e w' => e = .returned (.tuple #[.int .i64 0, .int .i64 21]) ∧ w = w' := by
  have HA := Lib.hid (decide_eq_true h); clear h
  go_enter Try.func77, Try.ntmps77
  go_wp2_with ((with_reducible refine (none_is x _ HA.out _).mono ?_); rintro e w' ⟨rfl, rfl⟩)
  go_ret2
  exact ⟨rfl, rfl⟩
theorem runits_out (x : Nat) (h : rg x ≤ 9218868437227405312) (a b : Bool) (ha : (FloatKind.f64.format.order x 0 == some Ordering.lt) = a) (hb : (FloatKind.f64.format.order x 4607182418800017408 == some Ordering.gt) = b) (hab : (a || b) = true) (w : World) : Calls Try.prog 77 #[.float .f64 x] w fun e w' => e = .returned (.tuple #[.int .i64 0, .int .i64 2]) ∧ w = w' := by
  have HA := Lib.hid (decide_eq_false (show ¬ 9218868437227405312 < rg x by omega)); clear h
  cases a <;> cases b <;> first | exact absurd hab (by decide) |
  (clear hab
   go_enter Try.func77, Try.ntmps77
   go_wp2_with ((with_reducible refine (none_is x _ HA.out _).mono ?_); rintro e w' ⟨rfl, rfl⟩)
   go_ret2
   exact ⟨rfl, rfl⟩)
set_option maxHeartbeats 2000000 in
theorem runits_in (x y d N : Nat) (q : Nat) (hq : q ≤ 1048576) (h : rg x ≤ 9218868437227405312) (ha : (FloatKind.f64.format.order x 0 == some Ordering.lt) = false) (hb : (FloatKind.f64.format.order x 4607182418800017408 == some Ordering.gt) = false) (hm : floatBits .mul .f64 x 4697254411347427328 = some y)
    (hle : ∀ m : Nat, m < 2000000 → (FloatKind.f64.format.order (floatOfInt .f64 (m : Int)) y == some Ordering.lt || FloatKind.f64.format.order (floatOfInt .f64 (m : Int)) y == some Ordering.eq) = decide (m ≤ q))
    (hd : floatBits .sub .f64 y (floatOfInt .f64 (q : Int)) = some d) (s t : Bool) (hs : (FloatKind.f64.format.order d 4602678819172646912 == some Ordering.gt) = s) (ht : (FloatKind.f64.format.order d 4602678819172646912 == some Ordering.eq) = t) (u : Bool) (hu : ((q : Int) % 2 == 1) = u) (w : World) :
    Calls Try.prog 77 #[.float .f64 x] w fun e w' => e = .returned (.tuple #[.int .i64 ((q : Int) + if s || (t && u) then 1 else 0), .int .i64 0]) ∧ w = w' := by
  have HA := Lib.hid (decide_eq_false (show ¬ 9218868437227405312 < rg x by omega)); clear h
  have hc := fun w => run_float_arith (P := Try.prog) w .mul 79 .f64 x 4697254411347427328 y hm
  have hc2 := fun w => run_float_arith (P := Try.prog) w .sub 79 .f64 y (floatOfInt .f64 (q : Int)) d hd
  have HC2 := Lib.hid hc2; have HLE := Lib.hid hle; have HS := Lib.hid hs; have HT := Lib.hid ht; have HU := Lib.hid hu
  clear hm hd hc2 hle hs ht hu
  go_enter Try.func77, Try.ntmps77
  go_wp2_with ((with_reducible refine (none_is x _ HA.out _).mono ?_); rintro e w' ⟨rfl, rfl⟩)
  go_loop [5, 6] (fun lo hi => ∃ a b : Nat, a ≤ q ∧ q < b ∧ b ≤ 1048577 ∧ lo = .int .i64 a ∧ hi = .int .i64 b) (fun lo hi => (intOf hi - intOf lo).toNat)
  case atStart => exact ⟨0, 1048577, by omega, by omega, by omega, rfl, rfl⟩
  case round =>
    obtain ⟨a, b, h1, h2, h3, rfl, rfl⟩ := hrel
    by_cases hlt : a + 1 < b
    · have t1 : decide ((1 : Int) < (b : Int) - a) = true := decide_eq_true (by omega)
      have hmid := HLE.out ((a + b) / 2) (by omega)
      rw [show (((a + b) / 2 : Nat) : Int) = ((a : Int) + b) / 2 by omega] at hmid
      by_cases hmq : (a + b) / 2 ≤ q
      · rw [decide_eq_true hmq] at hmid
        go_wp2
        go_round
        case rel => exact ⟨(a + b) / 2, b, hmq, h2, h3, by go_num, rfl⟩
        case measure => simp [intOf]; omega
      · rw [decide_eq_false hmq] at hmid
        go_wp2
        go_round
        case rel => exact ⟨a, (a + b) / 2, h1, by omega, by omega, rfl, by go_num⟩
        case measure => simp [intOf]; omega
    · obtain rfl : a = q := by omega
      have t1 : decide ((1 : Int) < (b : Int) - a) = false := decide_eq_false (by omega)
      have c2 := HC2.out
      clear hlt h2
      cases s <;> cases t <;> cases u <;>
      (have hs := HS.out; have ht := HT.out; have hu := HU.out
       go_wp2
       go_ret2
       exact ⟨rfl, rfl⟩)
theorem pick_eq (K R q : Nat) : (if (decide (K < 2 * R) || (decide (K = 2 * R) && decide (q % 2 = 1))) = true then (1 : Int) else 0) = (((if K < 2 * R ∨ (K = 2 * R ∧ q % 2 = 1) then 1 else 0) : Nat) : Int) := by
  by_cases h1 : K < 2 * R <;> by_cases h2 : K = 2 * R <;> by_cases h3 : q % 2 = 1 <;> simp [h1, h2, h3]
theorem runits_calls (x : Nat) (hx : x < 18446744073709551616) (w : World) : Calls Try.prog 77 #[.float .f64 x] w fun e w' => e = .returned (.tuple #[.int .i64 (un x).1, .int .i64 (un x).2]) ∧ w = w' := by
  unfold un
  by_cases h0 : 9218868437227405312 < rg x
  · rw [if_pos h0]; exact runits_nan x h0 w
  rw [if_neg h0]
  have hf : rg x ≤ 9218868437227405312 := by omega
  by_cases h1 : rg x ≤ 4607182418800017408 ∧ (ng x = false ∨ rg x = 0)
  · rw [if_pos h1]
    obtain ⟨r, u1, u2, u3⟩ := up20 (x := x) h1
    obtain ⟨y, hy⟩ : ∃ y, y = double.word (ng x) r := ⟨_, rfl⟩
    have hyr : rg y = r := by rw [hy]; exact word_rg _ (by omega)
    have hny : ng y = ng x := by rw [hy]; exact word_ng _ (by omega)
    have hs : ng y = false ∨ rg y = 0 := by
      rcases h1.2 with h2 | h2
      · exact .inl (hny.trans h2)
      · right; rw [hyr]; refine vl_inj ?_; rw [u2, h2, vl_zero, Nat.zero_mul]
    have hsv : sv y = (vl (rg y) : Nat) := by
      rcases hs with h2 | h2
      · exact sv_of h2 rfl
      · rw [sv_nul h2, h2, vl_zero]; rfl
    have hyl := y_le (y := y) (by rw [hyr]; exact u3)
    have hN : vl (rg y) = vl (rg x) * 1048576 := by rw [hyr, u2]
    rw [← hy] at u1
    obtain ⟨N, hNN⟩ : ∃ N, N = vl (rg y) := ⟨_, rfl⟩
    rw [← hNN] at hsv hyl hN
    rw [← hN]
    obtain ⟨q, hq⟩ : ∃ q, q = N / K1 := ⟨_, rfl⟩
    have hq1 : q ≤ 1048576 := by rw [hq]; exact Nat.div_le_of_le_mul (by rw [Nat.mul_comm]; exact hyl)
    have hqN : q * K1 ≤ N := by rw [hq]; exact Nat.div_mul_le_self N K1
    obtain ⟨d, d1, d2, d3⟩ := rest_sv hs (by rw [hyr]; exact u3) (q := q) (by omega) (by rw [← hNN]; exact hqN)
    rw [← hNN] at d3
    have hrem : N - q * K1 = N % K1 := by
      have := Nat.div_add_mod N K1
      rw [← hq, Nat.mul_comm] at this
      omega
    rw [hrem] at d3
    obtain ⟨g1, g2⟩ := half_lt d2 d3
    refine (runits_in x y d N q hq1 hf ?_ ?_ u1 ?_ d1 _ _ g1 g2 (decide (q % 2 = 1)) ?_ w).mono fun e w' he => ⟨?_, he.2⟩
    · rcases h1.2 with h2 | h2
      · by_cases h3 : rg x = 0
        · rw [o_nul h3]; rfl
        · rw [o_pos hf h2 h3]; rfl
      · rw [o_nul h2]; rfl
    · by_cases h2 : rg x = 0
      · exact nul_gt h2
      · rw [one_gt hf (h1.2.resolve_right h2)]; exact decide_eq_false (by have := h1.1; omega)
    · intro m hm
      have := leq_iff (y := y) (by rw [hyr]; omega) hsv (m := m) (by omega)
      refine Eq.trans this ?_
      congr 1
      rw [hq]
      exact propext (Nat.le_div_iff_mul_le K1_pos).symm
    · by_cases h : q % 2 = 1
      · rw [decide_eq_true h]; exact beq_iff_eq.2 (by omega)
      · rw [decide_eq_false h]; exact beq_eq_false_iff_ne.2 (by omega)
    · rw [he.1]
      unfold rhe
      rw [← hq, pick_eq, ← Int.natCast_add]
  · rw [if_neg h1]
    have h2 : rg x ≠ 0 := fun hc => h1 ⟨by omega, .inr hc⟩
    cases hn : ng x
    · refine runits_out x hf _ _ rfl rfl ?_ w
      rw [one_gt hf hn, decide_eq_true (Nat.lt_of_not_le fun hc => h1 ⟨hc, .inl hn⟩), Bool.or_true]
    · refine runits_out x hf _ _ rfl rfl ?_ w
      rw [o_neg hf hn h2]; rfl
/-! ### Of -/
theorem rof_lo (n : Int) (h : n ≤ 0) (w : World) : Calls Try.prog 84 #[.int .i64 n] w fun e w' => e = .returned (.float .f64 0) ∧ w = w' := by
  go_enter Try.func84, Try.ntmps84
  go_wp2
  go_ret
  exact ⟨rfl, rfl⟩
theorem rof_hi (n : Int) (h0 : 0 < n) (h : 1048576 ≤ n) (w : World) : Calls Try.prog 84 #[.int .i64 n] w fun e w' => e = .returned (.float .f64 4607182418800017408) ∧ w = w' := by
  go_enter Try.func84, Try.ntmps84
  go_wp2
  go_ret
  exact ⟨rfl, rfl⟩
theorem rof_in (n : Int) (r : Nat) (h0 : 0 < n) (h : n < 1048576) (hr : floatBits .quo .f64 (floatOfInt .f64 n) 4697254411347427328 = some r) (w : World) : Calls Try.prog 84 #[.int .i64 n] w fun e w' => e = .returned (.float .f64 r) ∧ w = w' := by
  have hc := fun w => run_float_arith (P := Try.prog) w .quo 79 .f64 (floatOfInt .f64 n) 4697254411347427328 r hr
  clear hr
  go_enter Try.func84, Try.ntmps84
  go_wp2
  go_ret
  exact ⟨rfl, rfl⟩
theorem ofv_one : ofv 1048576 = 4607182418800017408 := by decide
theorem rof_calls (n : Int) (m : Nat) (hm : (m : Int) = max 0 (min n 1048576)) (w : World) : Calls Try.prog 84 #[.int .i64 n] w fun e w' => e = .returned (.float .f64 (ofv m)) ∧ w = w' := by
  by_cases h1 : n ≤ 0
  · obtain rfl : m = 0 := by omega
    exact rof_lo n h1 w
  by_cases h2 : 1048576 ≤ n
  · obtain rfl : m = 1048576 := by omega
    rw [ofv_one]; exact rof_hi n (by omega) h2 w
  · obtain rfl : n = (m : Int) := by omega
    refine rof_in _ _ (by omega) (by omega) ?_ w
    obtain ⟨f, f1, f2, f3, f4, f5⟩ := fl_word (m := m) (by omega)
    rw [f1]
    have hf : 4607182418800017408 ≤ f := by
      refine Nat.le_of_not_lt fun hc => ?_
      have h4 := vl_lt hc
      have h5 := vl_at 1023 0 (by omega) (by omega)
      rw [show (1023 * 4503599627370496 + 0 : Nat) = 4607182418800017408 by omega, Nat.add_zero, ← pw_52, ← pw_add, show 52 + (1023 - 1) = 1074 by omega] at h5
      rw [h5, f4] at h4
      have h6 : 1 * K1 ≤ m * K1 := Nat.mul_le_mul_right _ (by omega)
      unfold K1 at *
      omega
    have hm0 : mg (rg f) ≠ 0 := fun hc => by have := mg_zero hc; omega
    have hs : 20 ≤ sh (rg f) := by unfold sh; omega
    show double.div f 4697254411347427328 = some (ofv m)
    have hL := log2_le _ hm0 (mg_lt (rg f))
    obtain ⟨r, h3, h4, h5⟩ := nearest_vl (ng f) (mg (rg f)) (55 - (mg (rg f)).log2) (sh (rg f) - 20) (-1074 + (sh (rg f) : Nat) - (20 : Nat) - 55 + ((mg (rg f)).log2 : Nat)) hm0 (mg_lt _) (by omega) (by unfold sh; omega)
    rw [show (4697254411347427328 : Nat) = (1023 + 20) * 4503599627370496 by omega, div_pow 20 (by omega) (by omega) hm0, h3, f3, word_false]
    congr 1
    refine vl_inj ?_
    refine Nat.eq_of_mul_eq_mul_right (pw_pos 20) ?_
    rw [h4, (ofv_vl (by omega)).1, Nat.mul_assoc, Nat.mul_assoc, ← pw_add, ← pw_add, Nat.sub_add_cancel hs]
    show vl (rg f) = m * pw 1074
    rw [f2, f4]; rfl
theorem un_ofv {m : Nat} (h : m ≤ 1048576) : un (ofv m) = ((m : Int), 0) := by
  obtain ⟨h1, h2⟩ := ofv_vl h
  have hr : rg (ofv m) = ofv m := by unfold rg; omega
  have hn : ng (ofv m) = false := by unfold ng; rw [Nat.div_eq_of_lt (by omega)]; rfl
  unfold un
  rw [hr, hn, if_neg (by omega), if_pos ⟨h2, .inl rfl⟩, h1]
  have e : m * pw 1054 * 1048576 = m * K1 := by
    have : pw 1074 = pw 1054 * pw 20 := pw_add 1054 20
    unfold K1
    rw [this, show pw 20 = 1048576 from rfl, Nat.mul_assoc]
  rw [e, rhe_exact _ _ K1_pos]
end Go.Proofs.Ytclfambjkolckaa.Fl
