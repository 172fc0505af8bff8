/- math.Ldexp, way by way. -/
import Derived.Test.YtclfambjkolckaaShareM
import Derived.Laws.FloatArith
namespace Go.Proofs.Ytclfambjkolckaa.ShareM
open Go Go.RowKit Go.Proofs.Ytclfambjkolckaa.Fl
set_option linter.unusedVariables false
set_option linter.unusedSimpArgs false
set_option maxRecDepth 20000
abbrev fo (x y : Nat) : Option Ordering := FloatKind.f64.format.order x y
abbrev absw (x : Nat) : Nat := (bits .andNot .u64 (x : Int) 9223372036854775808).toNat
theorem normalize_big (x : Nat) (w : World) (h : (FloatKind.f64.format.order (absw x) 4503599627370496 == some Ordering.lt) = false) : Calls Try.prog 170 #[.float .f64 x] w fun e w' => e = .returned (.tuple #[.float .f64 x, .int .i64 0]) ∧ w = w' := by
  go_enter Try.func170, Try.ntmps170
  go_wp2_with (go_at_call 165; refine (abs_calls _ _).mono ?_; rintro e w' ⟨rfl, rfl⟩)
  go_ret2
  exact ⟨rfl, rfl⟩
theorem normalize_small (x y : Nat) (w : World) (h : (FloatKind.f64.format.order (absw x) 4503599627370496 == some Ordering.lt) = true) (hy : FloatKind.f64.format.mul x 4841369599423283200 = some y) : Calls Try.prog 170 #[.float .f64 x] w fun e w' => e = .returned (.tuple #[.float .f64 y, .int .i64 (-52)]) ∧ w = w' := by
  have hr := fun w => run_float_arith (P := Try.prog) w .mul 79 .f64 x 4841369599423283200 y hy
  clear hy
  go_enter Try.func170, Try.ntmps170
  go_wp2_with (go_at_call 165; refine (abs_calls _ _).mono ?_; rintro e w' ⟨rfl, rfl⟩)
  go_ret2
  exact ⟨rfl, rfl⟩
theorem ldexp_zero (x : Nat) (k : Int) (w : World) (h : (FloatKind.f64.format.order x 0 == some Ordering.eq) = true) : Calls Try.prog 164 #[.float .f64 x, .int .i64 k] w fun e w' => e = .returned (.float .f64 x) ∧ w = w' := by
  go_enter Try.func164, Try.ntmps164
  go_wp2
  go_ret
  exact ⟨rfl, rfl⟩
set_option maxHeartbeats 1000000 in
theorem ldexp_norm (x y X r : Nat) (k e E : Int) (w : World) (h0 : (FloatKind.f64.format.order x 0 == some Ordering.eq) = false) (hn : ∀ w, Calls Try.prog 170 #[.float .f64 x] w fun e' w' => e' = .returned (.tuple #[.float .f64 y, .int .i64 e]) ∧ w = w')
    (h1 : (FloatKind.f64.format.order x x != some Ordering.eq) = false) (h2 : (FloatKind.f64.format.order (absw x) 9218868437227405311 == some Ordering.gt) = false)
    (hE : bits BinOp.and IntKind.i64 (wrap64 (↑y / 4503599627370496)) 2047 = E) (E0 : 0 ≤ E) (E1 : E ≤ 2047) (k0 : -100 ≤ k) (k1 : k ≤ 100) (e0 : -100 ≤ e) (e1 : e ≤ 100) (t1 : -1022 ≤ k + e + (E - 1023)) (t2 : k + e + (E - 1023) ≤ 1023)
    (hX : bits BinOp.or IntKind.u64 (bits BinOp.andNot IntKind.u64 (↑y) 9218868437227405312) ((k + e + (E - 1023) + 1023) * 4503599627370496) = (X : Int)) (hr : FloatKind.f64.format.mul 4607182418800017408 X = some r) :
    Calls Try.prog 164 #[.float .f64 x, .int .i64 k] w fun e w' => e = .returned (.float .f64 r) ∧ w = w' := by
  have h := f64bits; have h3 := f64from
  have hr' := fun w => run_float_arith (P := Try.prog) w .mul 79 .f64 4607182418800017408 X r hr
  have HN := Lib.hid hn; clear hn hr
  go_enter Try.func164, Try.ntmps164
  go_wp2_with (first | (go_at_call 133; refine (isNaN_calls _ _).mono ?_; rintro e w' ⟨rfl, rfl⟩) | (go_at_call 134; refine (isInf0_calls _ _).mono ?_; rintro e w' ⟨rfl, rfl⟩) | (go_at_call 170; refine (HN.out _).mono ?_; rintro e w' ⟨rfl, rfl⟩))
  go_ret
  exact ⟨rfl, rfl⟩
set_option maxHeartbeats 1000000 in
theorem ldexp_den (x y X r : Nat) (k e E : Int) (w : World) (h0 : (FloatKind.f64.format.order x 0 == some Ordering.eq) = false) (hn : ∀ w, Calls Try.prog 170 #[.float .f64 x] w fun e' w' => e' = .returned (.tuple #[.float .f64 y, .int .i64 e]) ∧ w = w')
    (h1 : (FloatKind.f64.format.order x x != some Ordering.eq) = false) (h2 : (FloatKind.f64.format.order (absw x) 9218868437227405311 == some Ordering.gt) = false)
    (hE : bits BinOp.and IntKind.i64 (wrap64 (↑y / 4503599627370496)) 2047 = E) (E0 : 0 ≤ E) (E1 : E ≤ 2047) (k0 : -100 ≤ k) (k1 : k ≤ 100) (e0 : -100 ≤ e) (e1 : e ≤ 100) (t1 : -1075 ≤ k + e + (E - 1023)) (t2 : k + e + (E - 1023) < -1022)
    (hX : bits BinOp.or IntKind.u64 (bits BinOp.andNot IntKind.u64 (↑y) 9218868437227405312) ((k + e + (E - 1023) + 53 + 1023) * 4503599627370496) = (X : Int)) (hr : FloatKind.f64.format.mul 4368491638549381120 X = some r) :
    Calls Try.prog 164 #[.float .f64 x, .int .i64 k] w fun e w' => e = .returned (.float .f64 r) ∧ w = w' := by
  have h := f64bits; have h3 := f64from
  have hr' := fun w => run_float_arith (P := Try.prog) w .mul 79 .f64 4368491638549381120 X r hr
  have HN := Lib.hid hn; clear hn hr
  go_enter Try.func164, Try.ntmps164
  go_wp2_with (first | (go_at_call 133; refine (isNaN_calls _ _).mono ?_; rintro e w' ⟨rfl, rfl⟩) | (go_at_call 134; refine (isInf0_calls _ _).mono ?_; rintro e w' ⟨rfl, rfl⟩) | (go_at_call 170; refine (HN.out _).mono ?_; rintro e w' ⟨rfl, rfl⟩))
  go_ret
  exact ⟨rfl, rfl⟩
theorem ldexp_top (x y : Nat) (k : Int) (w : World) (h : Calls Try.prog 164 #[.float .f64 x, .int .i64 k] w fun e w' => e = .returned (.float .f64 y) ∧ w = w') : Calls Try.prog 132 #[.float .f64 x, .int .i64 k] w fun e w' => e = .returned (.float .f64 y) ∧ w = w' := by
  have H := Lib.hid h; clear h
  go_enter Try.func132, Try.ntmps132
  go_wp2_with (go_at_call 164; refine H.out.mono ?_; rintro e w' ⟨rfl, rfl⟩)
  go_ret
  exact ⟨rfl, rfl⟩
end Go.Proofs.Ytclfambjkolckaa.ShareM
