/- sat.Hold, sat.amount and sat.Mul: the product of two held numbers, held. -/
import Derived.Test.YtkgcoeagifjbpaaSatPart
namespace Go.Proofs.Ytkgcoeagifjbpaa.SatDiv
open Go.RowKit Go.Proofs.YtkgcoeagifjbpaaW.PrintWords Go.Proofs.YtkgcoeagifjbpaaW.PrintLast Go.Proofs.YtkgcoeagifjbpaaW.PrintMore
set_option linter.unusedVariables false
set_option linter.unusedSimpArgs false

/-- held within the bound -/
def hd (x : Int) : Int := if x < -1152921504606846976 then -1152921504606846976 else if x > 1152921504606846976 then 1152921504606846976 else x
theorem hd_range (x : Int) : -1152921504606846976 ≤ hd x ∧ hd x ≤ 1152921504606846976 := by unfold hd; split <;> (try split) <;> omega
theorem hold_calls (x : Int) (w : World) : Calls Try.prog 48 #[.int .i64 x] w fun e w' => e = .returned (.int .i64 (hd x)) ∧ w = w' := by
  unfold hd
  by_cases h1 : x < -1152921504606846976
  · rw [if_pos h1]
    go_enter Try.func48, Try.ntmps48
    go_wp2
    go_ret
    exact ⟨rfl, rfl⟩
  · by_cases h2 : x > 1152921504606846976
    · rw [if_neg h1, if_pos h2]
      go_enter Try.func48, Try.ntmps48
      go_wp2
      go_ret
      exact ⟨rfl, rfl⟩
    · rw [if_neg h1, if_neg h2]
      go_enter Try.func48, Try.ntmps48
      go_wp2
      go_ret
      exact ⟨rfl, rfl⟩
theorem amount_neg (x : Int) (w : World) (h : x < 0) (h1 : -1152921504606846976 ≤ x) : Calls Try.prog 74 #[.int .i64 x] w fun e w' => e = .returned (.tuple #[.int .u64 (-x), .bool true]) ∧ w = w' := by
  have e : IntKind.u64.wrap (-x) = -x := by rw [IntKind.wrap_u64]; omega
  have E := Lib.hid e; clear e
  go_enter Try.func74, Try.ntmps74
  go_wp2
  go_ret2
  exact ⟨by first | rfl | rw [E.out], rfl⟩
theorem amount_pos (x : Int) (w : World) (h : 0 ≤ x) (h1 : x ≤ 1152921504606846976) : Calls Try.prog 74 #[.int .i64 x] w fun e w' => e = .returned (.tuple #[.int .u64 x, .bool false]) ∧ w = w' := by
  have e : IntKind.u64.wrap x = x := by rw [IntKind.wrap_u64]; omega
  have E := Lib.hid e; clear e
  go_enter Try.func74, Try.ntmps74
  go_wp2
  go_ret2
  exact ⟨by first | rfl | rw [E.out], rfl⟩
theorem ret_int {k : IntKind} {a b : Int} (h : a = b) : Ending.returned (.int k a) = .returned (.int k b) := by rw [h]

set_option maxRecDepth 100000 in
set_option maxHeartbeats 1600000 in
theorem mul_core (a b x y X Y r : Int) (m n : Bool) (w : World) (hx : hd a = x) (hy : hd b = y) (hX : 0 ≤ X) (hX1 : X ≤ 1152921504606846976) (hY : 0 ≤ Y) (hY1 : Y ≤ 1152921504606846976)
    (hm : ∀ w, Calls Try.prog 74 #[.int .i64 x] w fun e w' => e = .returned (.tuple #[.int .u64 X, .bool m]) ∧ w = w')
    (hn : ∀ w, Calls Try.prog 74 #[.int .i64 y] w fun e w' => e = .returned (.tuple #[.int .u64 Y, .bool n]) ∧ w = w')
    (hr : r = if m = n then hd (X * Y) else -hd (X * Y)) :
    Calls Try.prog 46 #[.int .i64 a, .int .i64 b] w fun e w' => e = .returned (.int .i64 r) ∧ w = w' := by
  have HA := fun w => Lib.hid (hold_calls a w)
  have HB := fun w => Lib.hid (hold_calls b w)
  rw [hx] at HA
  rw [hy] at HB
  have HM := fun w => Lib.hid (hm w)
  have HN := fun w => Lib.hid (hn w)
  obtain ⟨p0, p1⟩ := mul_range hX hX1 hY hY1
  obtain ⟨hi, hhi⟩ : ∃ hi, hi = X * Y / 18446744073709551616 := ⟨_, rfl⟩
  obtain ⟨lo, hlo⟩ : ∃ lo, lo = X * Y % 18446744073709551616 := ⟨_, rfl⟩
  have HC := fun w => Lib.hid (mul64_calls X Y hi lo w hX (by omega) hY (by omega) hhi hlo)
  have k2 : 0 ≤ lo := by omega
  have k3 : lo < 18446744073709551616 := by omega
  clear hm hn hx hy
  by_cases hf : X * Y < 1152921504606846976
  · have e1 : lo = X * Y := by omega
    have e2 : hi = 0 := by omega
    have e3 : hd (X * Y) = lo := by unfold hd; rw [if_neg (by omega), if_neg (by omega)]; omega
    rw [e3] at hr
    have k4 : lo < 1152921504606846976 := by omega
    subst e2
    clear e1 e3 hlo hhi p0 p1 hf
    cases m <;> cases n
    all_goals
      simp at hr
      have HR := Lib.hid hr; clear hr
      go_enter Try.func46, Try.ntmps46
      go_wp2_with fail
      refine (HA _).out.mono ?_
      rintro e w' ⟨rfl, rfl⟩
      go_wp2_with fail
      refine (HM _).out.mono ?_
      rintro e w' ⟨rfl, rfl⟩
      go_wp2_with fail
      refine (HB _).out.mono ?_
      rintro e w' ⟨rfl, rfl⟩
      go_wp2_with fail
      refine (HN _).out.mono ?_
      rintro e w' ⟨rfl, rfl⟩
      go_wp2_with fail
      refine (HC _).out.mono ?_
      rintro e w' ⟨rfl, rfl⟩
      go_wp2
      go_ret
      refine ⟨ret_int ?_, rfl⟩
      rw [HR.out]
      first | done | (simp only [wrap64]; omega) | omega
  · have e3 : hd (X * Y) = 1152921504606846976 := by unfold hd; rw [if_neg (by omega)]; split <;> omega
    rw [e3] at hr
    have k4 : hi = 0 → 1152921504606846976 ≤ lo := by intro h; omega
    have k5 : 0 ≤ hi := by omega
    have k6 : hi < 18446744073709551616 := by omega
    clear e3 hlo hhi p0 p1 hf
    have K4 := Lib.hid k4; clear k4
    by_cases hz : hi = 0
    · have k7 := K4.out hz
      subst hz
      cases m <;> cases n
      all_goals
        simp at hr
        have HR := Lib.hid hr; clear hr
        go_enter Try.func46, Try.ntmps46
        go_wp2_with fail
        refine (HA _).out.mono ?_
        rintro e w' ⟨rfl, rfl⟩
        go_wp2_with fail
        refine (HM _).out.mono ?_
        rintro e w' ⟨rfl, rfl⟩
        go_wp2_with fail
        refine (HB _).out.mono ?_
        rintro e w' ⟨rfl, rfl⟩
        go_wp2_with fail
        refine (HN _).out.mono ?_
        rintro e w' ⟨rfl, rfl⟩
        go_wp2_with fail
        refine (HC _).out.mono ?_
        rintro e w' ⟨rfl, rfl⟩
        go_wp2
        go_ret
        refine ⟨ret_int ?_, rfl⟩
        rw [HR.out]
        first | done | (simp only [wrap64]; omega) | omega
    · have k8 : (hi == 0) = false := beq_eq_false_iff_ne.2 hz
      have k9 : 0 < hi := by omega
      clear hz
      cases m <;> cases n
      all_goals
        simp at hr
        have HR := Lib.hid hr; clear hr
        go_enter Try.func46, Try.ntmps46
        go_wp2_with fail
        refine (HA _).out.mono ?_
        rintro e w' ⟨rfl, rfl⟩
        go_wp2_with fail
        refine (HM _).out.mono ?_
        rintro e w' ⟨rfl, rfl⟩
        go_wp2_with fail
        refine (HB _).out.mono ?_
        rintro e w' ⟨rfl, rfl⟩
        go_wp2_with fail
        refine (HN _).out.mono ?_
        rintro e w' ⟨rfl, rfl⟩
        go_wp2_with fail
        refine (HC _).out.mono ?_
        rintro e w' ⟨rfl, rfl⟩
        go_wp2
        go_ret
        refine ⟨ret_int ?_, rfl⟩
        rw [HR.out]
        first | done | (simp only [wrap64]; omega) | omega
theorem hd_neg (x : Int) : hd (-x) = -hd x := by unfold hd; split <;> split <;> (try split) <;> (try split) <;> omega
theorem mul_calls (a b : Int) (w : World) : Calls Try.prog 46 #[.int .i64 a, .int .i64 b] w fun e w' => e = .returned (.int .i64 (hd (hd a * hd b))) ∧ w = w' := by
  have ha := hd_range a; have hb := hd_range b
  by_cases h1 : hd a < 0
  · by_cases h2 : hd b < 0
    · exact mul_core a b _ _ (-hd a) (-hd b) _ true true w rfl rfl (by omega) (by omega) (by omega) (by omega) (fun w => amount_neg _ w h1 (by omega)) (fun w => amount_neg _ w h2 (by omega)) (by rw [if_pos rfl, Int.neg_mul_neg])
    · exact mul_core a b _ _ (-hd a) (hd b) _ true false w rfl rfl (by omega) (by omega) (by omega) (by omega) (fun w => amount_neg _ w h1 (by omega)) (fun w => amount_pos _ w (by omega) (by omega)) (by rw [if_neg (by decide), ← hd_neg, Int.neg_mul, Int.neg_neg])
  · by_cases h2 : hd b < 0
    · exact mul_core a b _ _ (hd a) (-hd b) _ false true w rfl rfl (by omega) (by omega) (by omega) (by omega) (fun w => amount_pos _ w (by omega) (by omega)) (fun w => amount_neg _ w h2 (by omega)) (by rw [if_neg (by decide), ← hd_neg, Int.mul_neg, Int.neg_neg])
    · exact mul_core a b _ _ (hd a) (hd b) _ false false w rfl rfl (by omega) (by omega) (by omega) (by omega) (fun w => amount_pos _ w (by omega) (by omega)) (fun w => amount_pos _ w (by omega) (by omega)) (by rw [if_pos rfl])
def addV (a b : Int) : Int := hd (hd a + hd b)
def subV (a b : Int) : Int := hd (hd a - hd b)
def mulV (a b : Int) : Int := hd (hd a * hd b)
theorem add_calls (a b : Int) (w : World) : Calls Try.prog 45 #[.int .i64 a, .int .i64 b] w fun e w' => e = .returned (.int .i64 (addV a b)) ∧ w = w' := by
  have ha := hd_range a; have hb := hd_range b
  go_enter Try.func45, Try.ntmps45
  go_wp2_with fail
  refine (hold_calls a _).mono ?_
  rintro e w' ⟨rfl, rfl⟩
  go_wp2_with fail
  refine (hold_calls b _).mono ?_
  rintro e w' ⟨rfl, rfl⟩
  go_wp2_with fail
  refine (hold_calls (hd a + hd b) _).mono ?_
  rintro e w' ⟨rfl, rfl⟩
  go_wp2_with fail
  go_ret
  exact ⟨rfl, rfl⟩
theorem sub_calls (a b : Int) (w : World) : Calls Try.prog 47 #[.int .i64 a, .int .i64 b] w fun e w' => e = .returned (.int .i64 (subV a b)) ∧ w = w' := by
  have ha := hd_range a; have hb := hd_range b
  go_enter Try.func47, Try.ntmps47
  go_wp2_with fail
  refine (hold_calls a _).mono ?_
  rintro e w' ⟨rfl, rfl⟩
  go_wp2_with fail
  refine (hold_calls b _).mono ?_
  rintro e w' ⟨rfl, rfl⟩
  go_wp2_with fail
  refine (hold_calls (hd a - hd b) _).mono ?_
  rintro e w' ⟨rfl, rfl⟩
  go_wp2_with fail
  go_ret
  exact ⟨rfl, rfl⟩
end Go.Proofs.Ytkgcoeagifjbpaa.SatDiv
