/- A struct or an array by value, opened: its cells by their types. -/
import Derived.Test.YtlnnghbbjbimoaaProg
import Derived.WideShapes
import Derived.ChangeShapes
import Derived.OpenShut
namespace Go.Proofs.Ytlnnghbbjbimoaa.Agg
open Go.ChangeShapes Go.WideShapes Go.RowKit
set_option linter.unusedVariables false
variable {P : Program} {w : World} {r : Reach} {base : Nat}

theorem cell_int {t : TypeId} {k : IntKind} {v : Value} (hu : P.underlying t = some (.int k)) (h : Cell.okWide P w r base t v) : ∃ n, v = .int k n ∧ (Lit.int k n).wf = true := by
  unfold Cell.okWide at h
  rw [hu] at h
  cases v <;> simp [Cell.ok, hu] at h
  obtain ⟨rfl, h2⟩ := h
  exact ⟨_, rfl, by simpa [Lit.wf, IntKind.has] using h2⟩
theorem cell_bool {t : TypeId} {v : Value} (hu : P.underlying t = some .bool) (h : Cell.okWide P w r base t v) : ∃ b, v = .bool b := by
  unfold Cell.okWide at h
  rw [hu] at h
  cases v <;> simp [Cell.ok, hu] at h
  exact ⟨_, rfl⟩
theorem cell_string {t : TypeId} {v : Value} (hu : P.underlying t = some .string) (h : Cell.okWide P w r base t v) : ∃ s, v = .string s := by
  unfold Cell.okWide at h
  rw [hu] at h
  cases v <;> simp [Cell.ok, hu] at h
  exact ⟨_, rfl⟩
theorem cell_float {t : TypeId} {k : FloatKind} {v : Value} (hu : P.underlying t = some (.float k)) (h : Cell.okWide P w r base t v) : ∃ b, v = .float k b ∧ k.has b := by
  unfold Cell.okWide at h
  rw [hu] at h
  cases v <;> simp [Cell.ok, hu] at h
  obtain ⟨rfl, h2⟩ := h
  exact ⟨_, rfl, h2⟩
theorem agg_cells {t : TypeId} {v : Value} {ts : List TypeId} (hu : (match P.underlying t with | some (.struct _) | some (.array _ _) => true | _ => false) = true) (ht : P.cellTypes P.depth t = some ts) (hn : P.cellsOf t = ts.length) (h : Value.okWide P w r base t v) :
    ∃ cs : Array Value, v = .agg cs ∧ cs.size = ts.length ∧ ∀ (i : Nat) (u : Value) (t' : TypeId), cs[i]? = some u → ts[i]? = some t' → Cell.okWide P w r base t' u := by
  unfold Value.okWide at h
  have key : (∃ cs, v = .agg cs ∧ cs.size = P.cellsOf t ∧ Row.okWide P w r base t cs) → ∃ cs : Array Value, v = .agg cs ∧ cs.size = ts.length ∧ ∀ (i : Nat) (u : Value) (t' : TypeId), cs[i]? = some u → ts[i]? = some t' → Cell.okWide P w r base t' u := by
    rintro ⟨cs, rfl, hsz, ts', hts', _, hcell⟩
    rw [ht] at hts'
    obtain rfl := Option.some.inj hts'
    refine ⟨cs, rfl, hsz.trans hn, fun i u t' hu' ht' => ?_⟩
    obtain ⟨u', h1, h2⟩ := hcell i u hu'
    have hlt : i < ts.length := by
      rcases Nat.lt_or_ge i ts.length with h0 | h0
      · exact h0
      · rw [List.getElem?_eq_none h0] at ht'; cases ht'
    rw [Nat.mod_eq_of_lt hlt, ht'] at h1
    obtain rfl := Option.some.inj h1
    exact h2
  split at h
  · exact key h
  · exact key h
  · rename_i hx1 hx2
    cases hq : P.underlying t with
    | none => rw [hq] at hu; cases hu
    | some d => cases d <;> simp_all
theorem arr_ext {cs : Array Value} {l : List Value} (hsz : cs.size = l.length) (h : ∀ i, i < l.length → cs[i]? = l[i]?) : cs = l.toArray := by
  apply Array.ext'
  apply List.ext_getElem?
  intro i
  rcases Nat.lt_or_ge i l.length with h0 | h0
  · have := h i h0; simpa using this
  · rw [List.getElem?_eq_none (by simpa [hsz] using h0), List.getElem?_eq_none (by simpa using h0)]
theorem at_ {cs : Array Value} {n i : Nat} (hsz : cs.size = n) (h : i < n) : ∃ u, cs[i]? = some u := ⟨cs[i]'(by omega), by rw [Array.getElem?_eq_getElem]⟩
end Go.Proofs.Ytlnnghbbjbimoaa.Agg
