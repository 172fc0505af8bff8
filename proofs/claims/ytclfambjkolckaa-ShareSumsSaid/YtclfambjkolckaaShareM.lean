/- math's small functions on floats. -/
import Derived.Test.YtclfambjkolckaaIeee
import Derived.Test.YtclfambjkolckaaProg
import Derived.Lib.Hide
import Derived.WalkKit
import Derived.WalkLawsBesides
import Derived.Outline
namespace Go.Proofs.Ytclfambjkolckaa.ShareM
open Go Go.RowKit Go.Proofs.Ytclfambjkolckaa.Fl
set_option linter.unusedVariables false
set_option linter.unusedSimpArgs false
set_option maxRecDepth 20000
theorem f64bits (x : Nat) (w : World) : Sem.run Try.prog (callFunc 136 #[.float .f64 x]) w = .ok (.value (.int .u64 x)) w := by kernel_rfl
theorem f64from (n : Int) (w : World) : Sem.run Try.prog (callFunc 75 #[.int .u64 n]) w = .ok (.value (.float .f64 n.toNat)) w := by kernel_rfl
theorem isNaN_calls (x : Nat) (w : World) : Calls Try.prog 133 #[.float .f64 x] w fun e w' => e = .returned (.bool (FloatKind.f64.format.order x x != some Ordering.eq)) ∧ w = w' := by
  go_enter Try.func133, Try.ntmps133
  go_wp2
  go_ret
  exact ⟨rfl, rfl⟩
theorem signbit_calls (x : Nat) (w : World) : Calls Try.prog 135 #[.float .f64 x] w fun e w' => e = .returned (.bool (decide (wrap64 (x : Int) < 0))) ∧ w = w' := by
  have h := f64bits
  go_enter Try.func135, Try.ntmps135
  go_wp2
  go_ret
  exact ⟨rfl, rfl⟩
theorem abs_calls (x : Nat) (w : World) : Calls Try.prog 165 #[.float .f64 x] w fun e w' => e = .returned (.float .f64 (bits .andNot .u64 (x : Int) 9223372036854775808).toNat) ∧ w = w' := by
  have h := f64bits; have h2 := f64from
  go_enter Try.func165, Try.ntmps165
  go_wp2
  go_ret
  exact ⟨rfl, rfl⟩
theorem isInf1_calls (x : Nat) (w : World) : Calls Try.prog 134 #[.float .f64 x, .int .i64 1] w fun e w' => e = .returned (.bool (FloatKind.f64.format.order x 9218868437227405311 == some Ordering.gt)) ∧ w = w' := by
  go_enter Try.func134, Try.ntmps134
  go_wp2
  go_ret
  exact ⟨rfl, rfl⟩
theorem neg_run (x : Nat) (w : World) : Sem.run Try.prog (Go.Op.unary UnOp.neg (Value.float FloatKind.f64 x)) w = .ok (.float .f64 (x ^^^ 9223372036854775808)) w := by kernel_rfl
theorem isInfN_calls (x : Nat) (w : World) : Calls Try.prog 134 #[.float .f64 x, .int .i64 (-1)] w fun e w' => e = .returned (.bool (FloatKind.f64.format.order (x ^^^ 9223372036854775808) 9218868437227405311 == some Ordering.gt)) ∧ w = w' := by
  have h := neg_run
  go_enter Try.func134, Try.ntmps134
  go_wp2
  go_ret
  exact ⟨rfl, rfl⟩
theorem isInf0_calls (x : Nat) (w : World) : Calls Try.prog 134 #[.float .f64 x, .int .i64 0] w fun e w' => e = .returned (.bool (FloatKind.f64.format.order (bits .andNot .u64 (x : Int) 9223372036854775808).toNat 9218868437227405311 == some Ordering.gt)) ∧ w = w' := by
  go_enter Try.func134, Try.ntmps134
  go_wp2_with (go_at_call 165; refine (abs_calls _ _).mono ?_; rintro e w' ⟨rfl, rfl⟩)
  go_ret
  exact ⟨rfl, rfl⟩
/-- what kind a float is, as the program asks -/
def kv (x : Nat) : Int :=
  if (FloatKind.f64.format.order x x != some Ordering.eq) = true then 0
  else if (FloatKind.f64.format.order (x ^^^ 9223372036854775808) 9218868437227405311 == some Ordering.gt) = true then 1
  else if (FloatKind.f64.format.order x 9218868437227405311 == some Ordering.gt) = true then 6
  else if (FloatKind.f64.format.order x 0 == some Ordering.lt) = true then 2
  else if (FloatKind.f64.format.order x 0 == some Ordering.gt) = true then 5
  else if decide (wrap64 (x : Int) < 0) = true then 3 else 4
set_option maxHeartbeats 1000000 in
theorem kind_calls (x : Nat) (w : World) : Calls Try.prog 78 #[.float .f64 x] w fun e w' => e = .returned (.int .i64 (kv x)) ∧ w = w' := by
  have main : ∀ b0 b1 b2 b3 b4 b5 : Bool, (FloatKind.f64.format.order x x != some Ordering.eq) = b0 → (FloatKind.f64.format.order (x ^^^ 9223372036854775808) 9218868437227405311 == some Ordering.gt) = b1 → (FloatKind.f64.format.order x 9218868437227405311 == some Ordering.gt) = b2 → (FloatKind.f64.format.order x 0 == some Ordering.lt) = b3 → (FloatKind.f64.format.order x 0 == some Ordering.gt) = b4 → decide (wrap64 (x : Int) < 0) = b5 →
      Calls Try.prog 78 #[.float .f64 x] w fun e w' => e = .returned (.int .i64 (if b0 then 0 else if b1 then 1 else if b2 then 6 else if b3 then 2 else if b4 then 5 else if b5 then 3 else 4)) ∧ w = w' := by
    intro b0 b1 b2 b3 b4 b5 h0 h1 h2 h3 h4 h5
    have H0 := Lib.hid h0; have H1 := Lib.hid h1; have H2 := Lib.hid h2; have H5 := Lib.hid h5; clear h0 h1 h2 h5
    cases b0 <;> cases b1 <;> cases b2 <;> cases b3 <;> cases b4 <;> cases b5 <;>
    (go_enter Try.func78, Try.ntmps78
     go_wp2_with (first | (go_at_call 133; refine (isNaN_calls _ _).mono ?_; rintro e w' ⟨rfl, rfl⟩; rw [H0.out]) | (go_at_call 135; refine (signbit_calls _ _).mono ?_; rintro e w' ⟨rfl, rfl⟩; rw [H5.out]) | ((with_reducible refine (isInfN_calls _ _).mono ?_); rintro e w' ⟨rfl, rfl⟩; rw [H1.out]) | ((with_reducible refine (isInf1_calls _ _).mono ?_); rintro e w' ⟨rfl, rfl⟩; rw [H2.out]))
     go_ret
     exact ⟨rfl, rfl⟩)
  exact main _ _ _ _ _ _ rfl rfl rfl rfl rfl rfl
end Go.Proofs.Ytclfambjkolckaa.ShareM
