/- The plain values of the document's filter functions, and of Covers (printed by wip/tools/gen_filterref.py). -/
import Derived.Test.YtlnnghbbjbimoaaFilterV
import Derived.Test.YtlnnghbbjbimoaaInetRefV
import Derived.Test.YtlnnghbbjbimoaaPFx13
import Derived.Test.YtlnnghbbjbimoaaPFx9
import Derived.Test.YtlnnghbbjbimoaaPFx10
namespace Go.Proofs.Ytlnnghbbjbimoaa.FilterV
open Go Go.RowKit Go.Proofs.Ytlnnghbbjbimoaa.PF Go.Proofs.Ytlnnghbbjbimoaa.A128 Go.Proofs.Ytlnnghbbjbimoaa.InetV Go.Proofs.YtlnnghbbjbimoaaW.PrintWords Go.Proofs.YtlnnghbbjbimoaaW.PrintLast Go.Proofs.YtlnnghbbjbimoaaW.PrintMore
set_option linter.unusedVariables false
set_option linter.unusedSimpArgs false

theorem rpre_v (v h l n : Int) : flashlockref15_prefix.f v h l n = some (pre v h l n) := by
  unfold flashlockref15_prefix.f pre
  rw [size_v, Option.bind_some, InetV.rright_v, Option.bind_some]
  by_cases e : v = 0
  · subst e
    by_cases x : n = 0
    · subst x; by_cases y : h = 0 <;> by_cases z : l = 0 <;> simp [y, z, size]
    · have : ¬ (0 ≤ n ∧ n ≤ size 0) := by simp [size]; omega
      simp [x, this]
  · by_cases c : n ≥ 0
    · by_cases d : n ≤ size v
      · simp [e, c, d]
      · simp [e, c, d]
    · have : ¬ 0 ≤ n := by omega
      simp [e, c, this]
theorem rspn_v (a b : Int) : flashlockref15_span.f a b = some (spn a b) := by
  unfold flashlockref15_span.f spn
  (repeat' split) <;> (congr 1; rw [Bool.eq_iff_iff]; simp; omega)
theorem rright_v (k : Nat) (id pr v sh sl dh dl sn dn p pa pb qa qb lf : Int) (hk : 6 ≤ k) : flashlockref15_Right.f k id pr v sh sl dh dl sn dn p pa pb qa qb lf = some (rv id pr v sh sl dh dl sn dn p pa pb qa qb lf) := by
  obtain ⟨k, rfl⟩ : ∃ m, k = m + 1 + 1 + 1 + 1 + 1 + 1 := ⟨k - 6, by omega⟩
  unfold flashlockref15_Right.f rv
  simp only [flashlockref15_Right.j0, flashlockref15_Right.j1, flashlockref15_Right.j2, flashlockref15_Right.j3, flashlockref15_Right.j4, flashlockref15_Right.j5, rpre_v, rspn_v, Option.bind_some]
  generalize pre v sh sl sn = b1; generalize pre v dh dl dn = b2; generalize spn pa pb = b3; generalize spn qa qb = b4
  by_cases c1 : 1 ≤ id ∧ id ≤ 65535
  · rw [if_pos c1, if_neg (by omega), if_neg (by simp; omega)]
    by_cases c2 : 0 ≤ pr ∧ pr ≤ 65535
    · rw [if_pos c2, if_neg (by omega), if_neg (by simp; omega)]
      by_cases c3 : v = 0 ∨ v = 4 ∨ v = 6
      · rw [if_pos c3]
        have rest : (if b1 = true then (if (!b2) = true then some (6 : Int) else if p < -1 then (if true = true then some 7 else if b3 = true then (if (!b4) = true then some 6 else if lf < 1 then some 15 else if lf > 65535 then some 15 else some 0) else (if true = true then some 6 else if lf < 1 then some 15 else if lf > 65535 then some 15 else some 0)) else (if decide (p > 255) = true then some 7 else if b3 = true then (if (!b4) = true then some 6 else if lf < 1 then some 15 else if lf > 65535 then some 15 else some 0) else (if true = true then some 6 else if lf < 1 then some 15 else if lf > 65535 then some 15 else some 0))) else some 6) = some (if (b1 && b2) = true then if -1 ≤ p ∧ p ≤ 255 then if (b3 && b4) = true then if 1 ≤ lf ∧ lf ≤ 65535 then 0 else 15 else 6 else 7 else 6) := by
          cases b1 <;> cases b2 <;> simp
          by_cases c5 : -1 ≤ p ∧ p ≤ 255
          · rw [if_pos c5, if_neg (by omega), if_neg (by omega)]
            cases b3 <;> cases b4 <;> simp
            (repeat' split) <;> first | rfl | omega
          · rw [if_neg c5]; (repeat' split) <;> first | rfl | omega
        rcases c3 with rfl | rfl | rfl <;> simpa using rest
      · have h0 : ¬ v = 0 := by omega
        have h4 : ¬ v = 4 := by omega
        have h6 : ¬ v = 6 := by omega
        simp [h0, h4, h6]
    · rw [if_neg c2]; by_cases d : pr < 0
      · simp [d]
      · rw [if_neg d, if_pos (by simp; omega)]
  · rw [if_neg c1]; by_cases d : id < 1
    · simp [d]
    · rw [if_neg d, if_pos (by simp; omega)]
end Go.Proofs.Ytlnnghbbjbimoaa.FilterV
