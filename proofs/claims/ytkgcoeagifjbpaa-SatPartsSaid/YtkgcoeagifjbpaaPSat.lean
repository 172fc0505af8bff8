/- What the functions of sat and the document's tell, as plain functions of whole numbers. -/
import Derived.Test.YtkgcoeagifjbpaaPAx1
import Derived.OpenShut
namespace Go.Proofs.Ytkgcoeagifjbpaa.Pure
open Go.RowKit Go.Proofs.Ytkgcoeagifjbpaa.PA Go.Proofs.Ytkgcoeagifjbpaa.SatDiv Go.Proofs.YtkgcoeagifjbpaaW.PrintWords Go.Proofs.YtkgcoeagifjbpaaW.PrintLast Go.Proofs.YtkgcoeagifjbpaaW.PrintMore
set_option linter.unusedVariables false

theorem hd_id {x : Int} (h : -1152921504606846976 ≤ x ∧ x ≤ 1152921504606846976) : hd x = x := by unfold hd; rw [if_neg (by omega), if_neg (by omega)]
theorem hd_mono {x y : Int} (h : x ≤ y) : hd x ≤ hd y := by unfold hd; split <;> split <;> (try split) <;> (try split) <;> omega
theorem hd_hd (x : Int) : hd (hd x) = hd x := hd_id (hd_range x)
theorem wr {x : Int} (h : -9223372036854775808 ≤ x ∧ x < 9223372036854775808) : wrap64 x = x := by unfold wrap64; omega
theorem wru {x : Int} (h : 0 ≤ x ∧ x < 18446744073709551616) : IntKind.u64.wrap x = x := by rw [IntKind.wrap_u64]; omega
theorem addV_range (x y : Int) : -1152921504606846976 ≤ addV x y ∧ addV x y ≤ 1152921504606846976 := hd_range _
theorem subV_range (x y : Int) : -1152921504606846976 ≤ subV x y ∧ subV x y ≤ 1152921504606846976 := hd_range _
theorem mulV_range (x y : Int) : -1152921504606846976 ≤ mulV x y ∧ mulV x y ≤ 1152921504606846976 := hd_range _
/-- what of the printed functions is known outright -/
theorem sat_known (a b c : Int) : sat_Hold.f a = some (hd a) ∧ sat_Add.f a b = some (addV a b) ∧ sat_Sub.f a b = some (subV a b) ∧ sat_Mul.f a b = some (mulV a b) ∧ sat_Part.f a b c = some (partV a b c) ∧ sat_Up.f a b c = some (upV a b c) := ⟨rfl, rfl, rfl, rfl, rfl, rfl⟩
end Go.Proofs.Ytkgcoeagifjbpaa.Pure
