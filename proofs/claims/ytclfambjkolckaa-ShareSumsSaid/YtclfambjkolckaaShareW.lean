/- The share functions of the program, by contract. -/
import Derived.Test.YtclfambjkolckaaShareL2
namespace Go.Proofs.Ytclfambjkolckaa.Fl
open Go Go.RowKit Ieee Go.Proofs.Ytclfambjkolckaa.ShareM
set_option linter.unusedVariables false
set_option linter.unusedSimpArgs false
set_option maxRecDepth 20000
theorem round_run0 (y : Nat) (w : World) : Sem.run Try.prog (callFunc 131 #[.float .f64 y]) w = Sem.run Try.prog (do pure (Next.value (← Go.Extern.MathFloor.toIntegral "math.RoundToEven" .even #[.float .f64 y]))) w := by kernel_rfl
theorem round_run (y : Nat) (h : rg y < 9218868437227405312) (w : World) : Sem.run Try.prog (callFunc 131 #[.float .f64 y]) w = .ok (.value (.float .f64 (FloatKind.f64.encode ((FloatKind.f64.decode y).integral .even)))) w := by
  rw [round_run0]
  have hd : FloatKind.f64.decode y = .number (ng y) (mg (rg y)) (-1074 + (sh (rg y) : Nat)) := read_fin h
  have e : Go.Extern.MathFloor.toIntegral "math.RoundToEven" .even #[.float .f64 y] = (match FloatKind.f64.decode y with
    | .nan s t =>
      if FloatKind.f64.format.quiet t = t then pure (.float .f64 y) else do
      let kept ← choose (.extern "math.Floor,Ceil,Trunc,RoundToEven.signallingNaN kept" 2)
      pure (.float .f64 (if kept == 1 then y else FloatKind.f64.encode (.nan s (FloatKind.f64.format.quiet t))))
    | d => pure (.float .f64 (FloatKind.f64.encode (d.integral .even)))) := rfl
  rw [e, hd]
  rfl
theorem kind_is {x : Nat} {k : Int} (hx : x < 18446744073709551616) (h : cl x = k) (w : World) : Calls Try.prog 78 #[.float .f64 x] w fun e w' => e = .returned (.int .i64 k) ∧ w = w' :=
  (kind_calls x w).mono fun e w' he => ⟨by rw [he.1, kv_cl hx, h], he.2⟩
/-- units of a float, and the error -/
def un (x : Nat) : Int × Int :=
  if 9218868437227405312 < rg x then (0, 21)
  else if rg x ≤ 4607182418800017408 ∧ (ng x = false ∨ rg x = 0) then (((rhe (vl (rg x) * 1048576) K1 : Nat) : Int), 0)
  else (0, 2)
theorem units_0 (x : Nat) (w : World) (h : ∀ w, Calls Try.prog 78 #[.float .f64 x] w fun e w' => e = .returned (.int .i64 0) ∧ w = w') : Calls Try.prog 76 #[.float .f64 x] w fun e w' => e = .returned (.tuple #[.int .i64 0, .int .i64 21]) ∧ w = w' := by
  have H := Lib.hid h; clear h
  go_enter Try.func76, Try.ntmps76
  go_wp2_with (go_at_call 78; refine (H.out _).mono ?_; rintro e w' ⟨rfl, rfl⟩)
  go_ret2
  exact ⟨rfl, rfl⟩
theorem units_2 (x : Nat) (k : Int) (hk : k = 1 ∨ k = 2 ∨ k = 6) (w : World) (h : ∀ w, Calls Try.prog 78 #[.float .f64 x] w fun e w' => e = .returned (.int .i64 k) ∧ w = w') : Calls Try.prog 76 #[.float .f64 x] w fun e w' => e = .returned (.tuple #[.int .i64 0, .int .i64 2]) ∧ w = w' := by
  have H := Lib.hid h; clear h
  rcases hk with rfl | rfl | rfl
  all_goals
    go_enter Try.func76, Try.ntmps76
    go_wp2_with (go_at_call 78; refine (H.out _).mono ?_; rintro e w' ⟨rfl, rfl⟩)
    go_ret2
    exact ⟨rfl, rfl⟩
theorem units_far (x : Nat) (w : World) (h : ∀ w, Calls Try.prog 78 #[.float .f64 x] w fun e w' => e = .returned (.int .i64 5) ∧ w = w') (h1 : (FloatKind.f64.format.order x 4607182418800017408 == some Ordering.gt) = true) : Calls Try.prog 76 #[.float .f64 x] w fun e w' => e = .returned (.tuple #[.int .i64 0, .int .i64 2]) ∧ w = w' := by
  have H := Lib.hid h; clear h
  go_enter Try.func76, Try.ntmps76
  go_wp2_with (go_at_call 78; refine (H.out _).mono ?_; rintro e w' ⟨rfl, rfl⟩)
  go_ret2
  exact ⟨rfl, rfl⟩
theorem units_in (x y z : Nat) (k n : Int) (hk : k = 3 ∨ k = 4 ∨ k = 5) (w : World) (h : ∀ w, Calls Try.prog 78 #[.float .f64 x] w fun e w' => e = .returned (.int .i64 k) ∧ w = w') (h1 : (FloatKind.f64.format.order x 4607182418800017408 == some Ordering.gt) = false)
    (hl : ∀ w, Calls Try.prog 132 #[.float .f64 x, .int .i64 20] w fun e w' => e = .returned (.float .f64 y) ∧ w = w') (hr : ∀ w, Sem.run Try.prog (callFunc 131 #[.float .f64 y]) w = .ok (.value (.float .f64 z)) w) (hn : floatToIntVal .f64 z .i64 = some n) :
    Calls Try.prog 76 #[.float .f64 x] w fun e w' => e = .returned (.tuple #[.int .i64 n, .int .i64 0]) ∧ w = w' := by
  have H := Lib.hid h; have HL := Lib.hid hl; clear h hl
  have hc := fun w => run_convert_float_int (P := Try.prog) w 79 3 .f64 .i64 z n (by kernel_rfl) (by kernel_rfl) hn
  clear hn
  rcases hk with rfl | rfl | rfl
  all_goals
    go_enter Try.func76, Try.ntmps76
    go_wp2_with (first | (go_at_call 78; refine (H.out _).mono ?_; rintro e w' ⟨rfl, rfl⟩) | (go_at_call 132; refine (HL.out _).mono ?_; rintro e w' ⟨rfl, rfl⟩))
    go_ret2
    exact ⟨rfl, rfl⟩
theorem one_gt {x : Nat} (h : rg x ≤ 9218868437227405312) (hn : ng x = false) : (FloatKind.f64.format.order x 4607182418800017408 == some Ordering.gt) = decide (4607182418800017408 < rg x) := by
  rw [fo_sv h (by decide), sv_of hn rfl, sv_of (x := 4607182418800017408) (r := 4607182418800017408) (by decide) (by decide)]
  rcases Nat.lt_trichotomy (rg x) 4607182418800017408 with h1 | h1 | h1
  · rw [Int.compare_eq_lt.2 (by have := vl_lt h1; omega), decide_eq_false (by omega)]; rfl
  · rw [h1, cmp_eq]; rfl
  · rw [Int.compare_eq_gt.2 (by have := vl_lt h1; omega), decide_eq_true h1]; rfl
theorem nul_gt {x : Nat} (h : rg x = 0) : (FloatKind.f64.format.order x 4607182418800017408 == some Ordering.gt) = false := by
  rw [fo_sv (by omega) (by decide), sv_nul h, sv_one, Int.compare_eq_lt.2 (by have := pw_pos 1074; omega)]; rfl
theorem units_calls (x : Nat) (hx : x < 18446744073709551616) (w : World) : Calls Try.prog 76 #[.float .f64 x] w fun e w' => e = .returned (.tuple #[.int .i64 (un x).1, .int .i64 (un x).2]) ∧ w = w' := by
  unfold un
  by_cases h0 : 9218868437227405312 < rg x
  · rw [if_pos h0]
    exact units_0 x w (kind_is hx (by unfold cl; rw [if_pos h0]))
  rw [if_neg h0]
  by_cases h1 : rg x ≤ 4607182418800017408 ∧ (ng x = false ∨ rg x = 0)
  · rw [if_pos h1]
    obtain ⟨r, u1, u2, u3⟩ := up20 (x := x) h1
    have hy : rg (double.word (ng x) r) = r := word_rg _ (by omega)
    have hny : ng (double.word (ng x) r) = ng x := word_ng _ (by omega)
    have hs : ng (double.word (ng x) r) = false ∨ rg (double.word (ng x) r) = 0 := by
      rcases h1.2 with h2 | h2
      · exact .inl (hny.trans h2)
      · right; rw [hy]; refine vl_inj ?_; rw [u2, h2, vl_zero, Nat.zero_mul]
    obtain ⟨z, z1, z2⟩ := round_val hs (by rw [hy]; exact u3)
    rw [hy, u2] at z2
    have hc : cl x = 3 ∨ cl x = 4 ∨ cl x = 5 := by
      unfold cl
      rw [if_neg h0, if_neg (by have := h1.1; omega)]
      by_cases h2 : rg x = 0
      · rw [if_pos h2]; cases ng x <;> simp
      · rw [if_neg h2, h1.2.resolve_right h2]; simp
    refine units_in x (double.word (ng x) r) z (cl x) _ hc w (kind_is hx rfl) ?_ (ldexp_up hx h1 u1) (fun w => by rw [round_run _ (by rw [hy]; omega), z1]) z2
    by_cases h2 : rg x = 0
    · exact nul_gt h2
    · rw [one_gt (by omega) (h1.2.resolve_right h2)]; exact decide_eq_false (by have := h1.1; omega)
  · rw [if_neg h1]
    have h2 : rg x ≠ 0 := fun hc => h1 ⟨by omega, .inr hc⟩
    by_cases h3 : rg x = 9218868437227405312
    · refine units_2 x (cl x) ?_ w (kind_is hx rfl)
      unfold cl; rw [if_neg h0, if_pos h3]; cases ng x <;> simp
    · cases hn : ng x
      · refine units_far x w (kind_is hx ?_) ?_
        · unfold cl; rw [if_neg h0, if_neg h3, if_neg h2, hn]; rfl
        · rw [one_gt (by omega) hn]; exact decide_eq_true (Nat.lt_of_not_le fun hc => h1 ⟨hc, .inl hn⟩)
      · refine units_2 x 2 (by omega) w (kind_is hx ?_)
        unfold cl; rw [if_neg h0, if_neg h3, if_neg h2, hn]; rfl
end Go.Proofs.Ytclfambjkolckaa.Fl
