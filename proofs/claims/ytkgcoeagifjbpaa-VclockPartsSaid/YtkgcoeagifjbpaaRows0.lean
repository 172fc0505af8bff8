/- Rows that are read, cell by cell. -/
import Derived.Test.YtkgcoeagifjbpaaWWords
import Derived.Test.YtkgcoeagifjbpaaWMore
namespace Go.Proofs.Ytkgcoeagifjbpaa.Rw
open Go.RowKit Go.Proofs.YtkgcoeagifjbpaaW.PrintWords
theorem int_at {k : IntKind} {w : World} {A : Option Addr} {n : Nat} {xs : List Int} (h : Kd.C (Kd.int k) w A n xs) (i : Nat) (hi : i < xs.length) : ∃ ad, A = some ad ∧ w.cell? (ad.add i) = some (.int k (xs[i]'hi)) := by
  obtain ⟨ad, he, hc⟩ := h.2.2 (by have := h.1; omega)
  obtain ⟨c, hl, hk, hcell⟩ := hc i _ (List.getElem?_eq_getElem hi)
  have hk' : c = [Value.int k xs[i]] := hk
  subst hk'
  have := hcell 0 _ rfl
  have e2 : i * (Kd.int k).sz + 0 = i := by show i * 1 + 0 = i; omega
  rw [e2] at this
  exact ⟨ad, he, this⟩
end Go.Proofs.Ytkgcoeagifjbpaa.Rw
