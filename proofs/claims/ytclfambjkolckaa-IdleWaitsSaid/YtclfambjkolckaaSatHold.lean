/- sat.Hold, Add and Sub and the document's: by contract (where sat.Mul and Part are not in the program). -/
import Derived.Test.YtclfambjkolckaaProg
import Derived.Test.YtclfambjkolckaaWWords
import Derived.Test.YtclfambjkolckaaWMore
import Derived.WalkKit
import Derived.WalkLawsBesides
import Derived.WalkSpells
import Derived.Lib.Hide
namespace Go.Proofs.Ytclfambjkolckaa.SatDiv
open Go.RowKit Go.Proofs.YtclfambjkolckaaW.PrintWords Go.Proofs.YtclfambjkolckaaW.PrintLast Go.Proofs.YtclfambjkolckaaW.PrintMore
set_option linter.unusedVariables false
set_option linter.unusedSimpArgs false

/-- held within the bound -/
def hd (x : Int) : Int := if x < -1152921504606846976 then -1152921504606846976 else if x > 1152921504606846976 then 1152921504606846976 else x
theorem hd_range (x : Int) : -1152921504606846976 ≤ hd x ∧ hd x ≤ 1152921504606846976 := by unfold hd; split <;> (try split) <;> omega
theorem hold_calls (x : Int) (w : World) : Calls Try.prog 141 #[.int .i64 x] w fun e w' => e = .returned (.int .i64 (hd x)) ∧ w = w' := by
  unfold hd
  by_cases h1 : x < -1152921504606846976
  · rw [if_pos h1]
    go_enter Try.func141, Try.ntmps141
    go_wp2
    go_ret
    exact ⟨rfl, rfl⟩
  · by_cases h2 : x > 1152921504606846976
    · rw [if_neg h1, if_pos h2]
      go_enter Try.func141, Try.ntmps141
      go_wp2
      go_ret
      exact ⟨rfl, rfl⟩
    · rw [if_neg h1, if_neg h2]
      go_enter Try.func141, Try.ntmps141
      go_wp2
      go_ret
      exact ⟨rfl, rfl⟩
def addV (a b : Int) : Int := hd (hd a + hd b)
def subV (a b : Int) : Int := hd (hd a - hd b)
theorem add_calls (a b : Int) (w : World) : Calls Try.prog 116 #[.int .i64 a, .int .i64 b] w fun e w' => e = .returned (.int .i64 (addV a b)) ∧ w = w' := by
  have ha := hd_range a; have hb := hd_range b
  go_enter Try.func116, Try.ntmps116
  go_wp2_with fail
  refine (hold_calls a _).mono ?_
  rintro e w' ⟨rfl, rfl⟩
  go_wp2_with fail
  refine (hold_calls b _).mono ?_
  rintro e w' ⟨rfl, rfl⟩
  go_wp2_with fail
  refine (hold_calls (hd a + hd b) _).mono ?_
  rintro e w' ⟨rfl, rfl⟩
  go_wp2_with fail
  go_ret
  exact ⟨rfl, rfl⟩
theorem sub_calls (a b : Int) (w : World) : Calls Try.prog 140 #[.int .i64 a, .int .i64 b] w fun e w' => e = .returned (.int .i64 (subV a b)) ∧ w = w' := by
  have ha := hd_range a; have hb := hd_range b
  go_enter Try.func140, Try.ntmps140
  go_wp2_with fail
  refine (hold_calls a _).mono ?_
  rintro e w' ⟨rfl, rfl⟩
  go_wp2_with fail
  refine (hold_calls b _).mono ?_
  rintro e w' ⟨rfl, rfl⟩
  go_wp2_with fail
  refine (hold_calls (hd a - hd b) _).mono ?_
  rintro e w' ⟨rfl, rfl⟩
  go_wp2_with fail
  go_ret
  exact ⟨rfl, rfl⟩
theorem rhold_calls (x : Int) (w : World) : Calls Try.prog 146 #[.int .i64 x] w fun e w' => e = .returned (.int .i64 (hd x)) ∧ w = w' := by
  unfold hd
  by_cases h1 : x < -1152921504606846976
  · rw [if_pos h1]
    go_enter Try.func146, Try.ntmps146
    go_wp2
    go_ret
    exact ⟨rfl, rfl⟩
  · by_cases h2 : x > 1152921504606846976
    · rw [if_neg h1, if_pos h2]
      go_enter Try.func146, Try.ntmps146
      go_wp2
      go_ret
      exact ⟨rfl, rfl⟩
    · rw [if_neg h1, if_neg h2]
      go_enter Try.func146, Try.ntmps146
      go_wp2
      go_ret
      exact ⟨rfl, rfl⟩
theorem radd_calls (a b : Int) (w : World) : Calls Try.prog 150 #[.int .i64 a, .int .i64 b] w fun e w' => e = .returned (.int .i64 (addV a b)) ∧ w = w' := by
  have ha := hd_range a; have hb := hd_range b
  go_enter Try.func150, Try.ntmps150
  go_wp2_with fail
  refine (rhold_calls a _).mono ?_
  rintro e w' ⟨rfl, rfl⟩
  go_wp2_with fail
  refine (rhold_calls b _).mono ?_
  rintro e w' ⟨rfl, rfl⟩
  go_wp2_with fail
  refine (rhold_calls (hd a + hd b) _).mono ?_
  rintro e w' ⟨rfl, rfl⟩
  go_wp2_with fail
  go_ret
  exact ⟨rfl, rfl⟩
theorem rsub_calls (a b : Int) (w : World) : Calls Try.prog 147 #[.int .i64 a, .int .i64 b] w fun e w' => e = .returned (.int .i64 (subV a b)) ∧ w = w' := by
  have ha := hd_range a; have hb := hd_range b
  go_enter Try.func147, Try.ntmps147
  go_wp2_with fail
  refine (rhold_calls a _).mono ?_
  rintro e w' ⟨rfl, rfl⟩
  go_wp2_with fail
  refine (rhold_calls b _).mono ?_
  rintro e w' ⟨rfl, rfl⟩
  go_wp2_with fail
  refine (rhold_calls (hd a - hd b) _).mono ?_
  rintro e w' ⟨rfl, rfl⟩
  go_wp2_with fail
  go_ret
  exact ⟨rfl, rfl⟩
end Go.Proofs.Ytclfambjkolckaa.SatDiv
