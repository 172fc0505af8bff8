/- The examples of chapter 3. -/
import Derived.Test.YtclfambjkolckaaShareT
import Derived.Test.YtclfambjkolckaaWWords
import Derived.WalkSmall
namespace Go.Proofs.Ytclfambjkolckaa.Fl
open Go Go.RowKit Ieee Go.Proofs.Ytclfambjkolckaa.ShareM
set_option linter.unusedVariables false
set_option linter.unusedSimpArgs false
set_option maxRecDepth 20000
theorem inf_pos (w : World) : Calls Try.prog 128 #[.int .i64 1] w fun e w' => e = .returned (.float .f64 9218868437227405312) ∧ w = w' := by
  have h := f64from
  go_enter Try.func128, Try.ntmps128
  go_wp2
  go_ret
  exact ⟨rfl, rfl⟩
theorem inf_neg (w : World) : Calls Try.prog 128 #[.int .i64 (-1)] w fun e w' => e = .returned (.float .f64 18442240474082181120) ∧ w = w' := by
  have h := f64from
  go_enter Try.func128, Try.ntmps128
  go_wp2
  go_ret
  exact ⟨rfl, rfl⟩
theorem un_half : un 4602678819172646912 = (524288, 0) := by
  have h1 : vl (rg 4602678819172646912) = pw 1073 := by
    have := vl_at 1022 0 (by omega) (by omega)
    rw [show (1022 * 4503599627370496 + 0 : Nat) = 4602678819172646912 by omega, Nat.add_zero, ← pw_52, ← pw_add, show 52 + (1022 - 1) = 1073 by omega] at this
    rw [show rg 4602678819172646912 = 4602678819172646912 by decide]; exact this
  unfold un
  rw [if_neg (by decide), if_pos (by decide), h1]
  have e : pw 1073 * 1048576 = 524288 * K1 := by
    have : pw 1074 = pw 1 * pw 1073 := pw_add 1 1073
    unfold K1
    rw [this, show pw 1 = 2 from rfl]
    generalize pw 1073 = P
    omega
  rw [e, rhe_exact _ _ K1_pos]; rfl
theorem tot_inf : tot [9218868437227405312, 18442240474082181120] = none := by
  have a1 : floatBits .add .f64 0 9218868437227405312 = some 9218868437227405312 := by
    show double.add 0 9218868437227405312 = _
    unfold Format.add
    rw [read_fin (x := 0) (by decide), read_inf (x := 9218868437227405312) (by decide), show ng 9218868437227405312 = false by decide]
    simp only [Datum.sum, Option.map_some, Format.write, inf_]
    rw [word_false]
  have a2 : floatBits .add .f64 9218868437227405312 18442240474082181120 = none := by
    show double.add 9218868437227405312 18442240474082181120 = _
    unfold Format.add
    rw [read_inf (x := 9218868437227405312) (by decide), read_inf (x := 18442240474082181120) (by decide), show ng 9218868437227405312 = false by decide, show ng 18442240474082181120 = true by decide]
    simp [Datum.sum]
  show tot1 (tot1 (some 0) 9218868437227405312) 18442240474082181120 = none
  rw [show tot1 (some 0) 9218868437227405312 = floatBits .add .f64 0 9218868437227405312 from rfl, a1, show tot1 (some 9218868437227405312) 18442240474082181120 = floatBits .add .f64 9218868437227405312 18442240474082181120 from rfl, a2]
theorem units_half (w : World) : Calls Try.prog 76 #[.float .f64 4602678819172646912] w fun e w' => e = .returned (.tuple #[.int .i64 524288, .int .i64 0]) ∧ w = w' :=
  (units_calls 4602678819172646912 (by decide) w).mono fun e w' he => ⟨by rw [he.1, un_half], he.2⟩
theorem kind_m0 (w : World) : Calls Try.prog 78 #[.float .f64 9223372036854775808] w fun e w' => e = .returned (.int .i64 3) ∧ w = w' := kind_is (by decide) (by decide) w
theorem total_inf (w : World) (g : Nat) (h : w.heap[g]? = some (.cells #[.float .f64 9218868437227405312, .float .f64 18442240474082181120] 79 (0, 0))) : Calls Try.prog 73 #[.slice (some ⟨g, 0, none⟩) 2 2] w fun e w' => ∃ z j, e = .returned (.float .f64 z) ∧ (FloatKind.f64.format.order z z != some Ordering.eq) = true ∧ w' = w.drewN j := by
  refine (total_calls (some ⟨g, 0, none⟩) 2 2 [9218868437227405312, 18442240474082181120] w ⟨rfl, fun _ => ⟨g, 0, rfl, fun k hk => ?_⟩⟩ (by omega)).mono fun e w' he => ?_
  · obtain rfl | rfl : k = 0 ∨ k = 1 := by omega
    · simp [World.cell?, h]
    · simp [World.cell?, h]
  · obtain ⟨z, j, h1, h2, h3⟩ := he
    rw [tot_inf] at h2
    exact ⟨z, j, h1, t_nan h2.1, h3⟩
set_option maxHeartbeats 1000000 in
theorem lives_calls (w : World) : Calls Try.prog 68 #[] w fun e w' => e = .returned (.bool true) ∧ Below w.heap.size w w' := by
  have h := f64from
  go_enter Try.func68, Try.ntmps68
  go_wp2_with (first | ((with_reducible refine (units_half _).mono ?_); rintro e w' ⟨rfl, rfl⟩) | ((with_reducible refine (inf_pos _).mono ?_); rintro e w' ⟨rfl, rfl⟩) | ((with_reducible refine (inf_neg _).mono ?_); rintro e w' ⟨rfl, rfl⟩) | ((with_reducible refine (kind_m0 _).mono ?_); rintro e w' ⟨rfl, rfl⟩) | ((with_reducible refine (total_inf _ _ (Go.Proofs.YtclfambjkolckaaW.PrintWords.blk_new _ _)).mono ?_); rintro e w' ⟨z, j, rfl, hz, rfl⟩))
  go_ret
  exact ⟨rfl, below_drewN ((Below.refl _ _).alloc (Nat.le_refl _) _) j⟩
end Go.Proofs.Ytclfambjkolckaa.Fl
