/- The averages' step and the way back, by contract, where a class is right. -/
import Derived.Test.YtclfambjkolckaaSatHold
import Derived.Outline
namespace Go.Proofs.Ytclfambjkolckaa.IdleH
open Go Go.RowKit Go.Proofs.Ytclfambjkolckaa.SatDiv
set_option linter.unusedVariables false
set_option linter.unusedSimpArgs false
theorem weight_ok (k : Int) (h0 : 0 ≤ k) (h1 : k ≤ 16) (w : World) : Calls Try.prog 166 #[.int .i64 k] w fun e w' => e = .returned (.bool true) ∧ w = w' := by
  go_enter Try.func166, Try.ntmps166
  go_wp2
  go_ret
  exact ⟨rfl, rfl⟩
theorem floor_ok (x k j : Int) (h0 : 0 ≤ k) (h1 : k ≤ 16) (hj : x / 2 ^ k.toNat = j) (w : World) : Calls Try.prog 167 #[.int .i64 x, .int .i64 k] w fun e w' => e = .returned (.int .i64 j) ∧ w = w' := by
  go_enter Try.func167, Try.ntmps167
  go_wp2
  go_ret
  exact ⟨rfl, rfl⟩
theorem step_ok (y x k j d r : Int) (h0 : 0 ≤ k) (h1 : k ≤ 16) (hd_ : subV x y = d) (hj : d / 2 ^ k.toNat = j) (hr : addV y j = r) (w : World) : Calls Try.prog 143 #[.int .i64 y, .int .i64 x, .int .i64 k] w fun e w' => e = .returned (.int .i64 r) ∧ w = w' := by
  have HD := Lib.hid (fun w => sub_calls x y w); rw [hd_] at HD
  have HF := Lib.hid (fun w => floor_ok d k j h0 h1 hj w)
  have HA := Lib.hid (fun w => add_calls y j w); rw [hr] at HA
  clear hd_ hj hr
  go_enter Try.func143, Try.ntmps143
  go_wp2_with (first | ((with_reducible refine (weight_ok k h0 h1 _).mono ?_); rintro e w' ⟨rfl, rfl⟩) | ((with_reducible refine (HD.out _).mono ?_); rintro e w' ⟨rfl, rfl⟩) | ((with_reducible refine (HF.out _).mono ?_); rintro e w' ⟨rfl, rfl⟩) | ((with_reducible refine (HA.out _).mono ?_); rintro e w' ⟨rfl, rfl⟩))
  go_ret
  exact ⟨rfl, rfl⟩
theorem away_ok (y k : Int) (h0 : 0 ≤ k) (h1 : k ≤ 16) (y0 : -1099511627776 ≤ y) (y1 : y < 0) (w : World) : Calls Try.prog 144 #[.int .i64 y, .int .i64 k] w fun e w' => e = .returned (.int .i64 (-y * (2 ^ k.toNat - 1))) ∧ w = w' := by
  go_enter Try.func144, Try.ntmps144
  go_wp2_with ((with_reducible refine (weight_ok k h0 h1 _).mono ?_); rintro e w' ⟨rfl, rfl⟩)
  go_ret
  refine ⟨?_, rfl⟩
  have hp : (1 : Int) ≤ 2 ^ k.toNat ∧ (2 : Int) ^ k.toNat ≤ 65536 := by
    obtain ⟨n, rfl⟩ := Int.eq_ofNat_of_zero_le h0
    rw [Int.toNat_natCast]
    have e : (2 : Int) ^ n = ((2 ^ n : Nat) : Int) := by simp
    have h2 : 2 ^ n ≤ 2 ^ 16 := Nat.pow_le_pow_right (by omega) (by omega)
    have h3 : 0 < 2 ^ n := Nat.pow_pos (by omega)
    rw [e]
    have h4 : (2 ^ 16 : Nat) = 65536 := by decide
    omega
  generalize (2 : Int) ^ k.toNat = p at hp
  have h3 : 0 ≤ -y * (p - 1) := Int.mul_nonneg (by omega) (by omega)
  have h4 : -y * (p - 1) ≤ 1099511627776 * 65535 := Int.mul_le_mul (by omega) (by omega) (by omega) (by omega)
  have e1 : wrap64 (wrap64 p - 1) = p - 1 := by unfold wrap64; omega
  show Ending.returned (Value.int IntKind.i64 (wrap64 (-y * wrap64 (wrap64 p - 1)))) = _
  rw [e1]
  congr 2
  unfold wrap64; omega
end Go.Proofs.Ytclfambjkolckaa.IdleH
