/- The order of floats: a strict weak order; the greatest one. -/
import Derived.Test.YtclfambjkolckaaShareW2
namespace Go.Proofs.Ytclfambjkolckaa.Fl
open Go Go.RowKit Ieee
set_option linter.unusedVariables false
set_option linter.unusedSimpArgs false
def kx (x : Nat) : Int := if 9218868437227405312 < rg x then 0 else sv x
theorem cl_nan {x : Nat} : cl x = 0 ↔ 9218868437227405312 < rg x := by
  unfold cl
  by_cases h : 9218868437227405312 < rg x
  · rw [if_pos h]; simp [h]
  · rw [if_neg h]
    refine ⟨fun hc => ?_, fun hc => absurd hc h⟩
    exfalso; revert hc
    split
    · split <;> decide
    · split <;> split <;> decide
theorem lsv_dec (x y : Nat) : lsv x y = decide (cl x < cl y ∨ (cl x = cl y ∧ kx x < kx y)) := by
  unfold lsv
  by_cases h : cl x = cl y
  · rw [if_pos h]
    by_cases hn : 9218868437227405312 < rg x
    · have hm : 9218868437227405312 < rg y := cl_nan.1 (h ▸ cl_nan.2 hn)
      rw [fo_nan (.inl hn)]
      have e1 : kx x = 0 := if_pos hn
      have e2 : kx y = 0 := if_pos hm
      rw [e1, e2, h]
      simp
    · have hm : ¬ 9218868437227405312 < rg y := fun hc => hn (cl_nan.1 (h ▸ cl_nan.2 hc))
      have e1 : kx x = sv x := if_neg hn
      have e2 : kx y = sv y := if_neg hm
      rw [fo_sv (by omega) (by omega), e1, e2, h]
      rcases Int.lt_trichotomy (sv x) (sv y) with h1 | h1 | h1
      · rw [Int.compare_eq_lt.2 h1]; simp [h1]
      · rw [h1, Int.compare_eq_eq.2 rfl]; simp
      · rw [Int.compare_eq_gt.2 h1]; simp; omega
  · rw [if_neg h]
    congr 1
    exact propext ⟨fun hc => .inl hc, fun hc => hc.elim id (fun hc => absurd hc.1 h)⟩
theorem lsv_iff {x y : Nat} : lsv x y = true ↔ (cl x < cl y ∨ (cl x = cl y ∧ kx x < kx y)) := by rw [lsv_dec]; exact decide_eq_true_iff
theorem lsv_trans {x y z : Nat} (h1 : lsv x y = true) (h2 : lsv y z = true) : lsv x z = true := by
  rw [lsv_iff] at *; omega
theorem lsv_not {x y z : Nat} (h1 : ¬ lsv x y = true) (h2 : ¬ lsv y z = true) : ¬ lsv x z = true := by
  rw [lsv_iff] at *; omega
theorem lsv_irr (x : Nat) : ¬ lsv x x = true := by rw [lsv_iff]; omega
theorem lsv_asymm {x y : Nat} (h : lsv x y = true) : ¬ lsv y x = true := by rw [lsv_iff] at *; omega
theorem lsv_lt {x y z : Nat} (h1 : lsv x y = true) (h2 : ¬ lsv z y = true) : lsv x z = true := by
  rw [lsv_iff] at *; omega
/-- the same, or one stands ahead -/
theorem smv_lsv {x y : Nat} (hx : x < 18446744073709551616) (hy : y < 18446744073709551616) : smv x y = !(lsv x y || lsv y x) := by
  by_cases h : smv x y = true
  · rw [h]
    have : ¬ lsv x y = true ∧ ¬ lsv y x = true := by
      unfold smv at h
      simp only [Bool.or_eq_true, Bool.and_eq_true, decide_eq_true_eq] at h
      rcases h with ⟨h1, h2⟩ | h
      · have c1 := cl_nan.2 h1; have c2 := cl_nan.2 h2
        have e1 : kx x = 0 := if_pos h1
        have e2 : kx y = 0 := if_pos h2
        rw [lsv_iff, lsv_iff]; omega
      · subst h; exact ⟨lsv_irr x, lsv_irr x⟩
    simp [this.1, this.2]
  · have h1 : lsv x y = true ∨ lsv y x = true := by
      rw [lsv_iff, lsv_iff]
      refine Decidable.byContradiction fun hc => h ?_
      have hcl : cl x = cl y := by omega
      have hk : kx x = kx y := by omega
      unfold smv
      simp only [Bool.or_eq_true, Bool.and_eq_true, decide_eq_true_eq]
      by_cases hn : 9218868437227405312 < rg x
      · exact .inl ⟨hn, cl_nan.1 (hcl ▸ cl_nan.2 hn)⟩
      · right
        have hm : ¬ 9218868437227405312 < rg y := fun hc => hn (cl_nan.1 (hcl ▸ cl_nan.2 hc))
        have e1 : kx x = sv x := if_neg hn
        have e2 : kx y = sv y := if_neg hm
        refine sv_inj hx hy (by rw [← e1, ← e2, hk]) ?_
        unfold cl at hcl
        rw [if_neg hn, if_neg hm] at hcl
        revert hcl
        cases ng x <;> cases ng y <;> simp <;> (try split) <;> (try split) <;> (try split) <;> (try split) <;> simp
    have h2 : smv x y = false := by simpa using h
    rw [h2]
    rcases h1 with h1 | h1 <;> simp [h1]
/-- the place of the greatest one of the first k -/
def bst (l : List Nat) : Nat → Nat
  | 0 => 0
  | k + 1 => if lsv (l.getD (bst l k) 0) (l.getD k 0) then k else bst l k
theorem bst_lt (l : List Nat) (k : Nat) : bst l (k + 1) ≤ k := by
  induction k with
  | zero => unfold bst bst; split <;> omega
  | succ k ih => unfold bst; split <;> omega
theorem bst_in (l : List Nat) {k : Nat} (h : 0 < k) : bst l k < k := by
  obtain ⟨d, rfl⟩ : ∃ d, k = d + 1 := ⟨k - 1, by omega⟩
  have := bst_lt l d; omega
theorem bst_max (l : List Nat) (k : Nat) : ∀ j, j < k → ¬ lsv (l.getD (bst l k) 0) (l.getD j 0) = true := by
  induction k with
  | zero => intro j hj; omega
  | succ k ih =>
    intro j hj
    unfold bst
    by_cases h : lsv (l.getD (bst l k) 0) (l.getD k 0) = true
    · rw [if_pos h]
      rcases Nat.lt_or_ge j k with h1 | h1
      · exact fun hc => ih j h1 (lsv_trans h hc)
      · obtain rfl : j = k := by omega
        exact lsv_irr _
    · rw [if_neg h]
      rcases Nat.lt_or_ge j k with h1 | h1
      · exact ih j h1
      · obtain rfl : j = k := by omega
        exact h
theorem bst_first (l : List Nat) (k : Nat) : ∀ j, j < bst l k → lsv (l.getD j 0) (l.getD (bst l k) 0) = true := by
  induction k with
  | zero => intro j hj; unfold bst at hj; omega
  | succ k ih =>
    intro j hj
    unfold bst at hj ⊢
    by_cases h : lsv (l.getD (bst l k) 0) (l.getD k 0) = true
    · rw [if_pos h] at hj ⊢
      have h1 := bst_max l k j hj
      rw [lsv_iff] at h h1 ⊢
      omega
    · rw [if_neg h] at hj ⊢
      exact ih j hj
end Go.Proofs.Ytclfambjkolckaa.Fl
