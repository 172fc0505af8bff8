/- Idle states, in whole numbers: what the program's functions and the document's come to. -/
import Derived.Test.YtclfambjkolckaaEwmaV
import Derived.Test.YtclfambjkolckaaPIx2
import Derived.Test.YtclfambjkolckaaPIx1
import Derived.Test.YtclfambjkolckaaPIx3
import Derived.Test.YtclfambjkolckaaPIx4
import Derived.Test.YtclfambjkolckaaPIx5
import Derived.Test.YtclfambjkolckaaFlB
namespace Go.Proofs.Ytclfambjkolckaa.Pure
open Go.RowKit Go.Proofs.Ytclfambjkolckaa.PI Go.Proofs.Ytclfambjkolckaa.SatDiv Go.Proofs.Ytclfambjkolckaa.Fl Go.Proofs.YtclfambjkolckaaW.PrintWords Go.Proofs.YtclfambjkolckaaW.PrintLast Go.Proofs.YtclfambjkolckaaW.PrintMore
set_option linter.unusedVariables false
set_option linter.unusedSimpArgs false
def btw (x lo hi : Int) : Bool := decide (lo ≤ x ∧ x ≤ hi)
theorem btw_t {x lo hi : Int} (h : lo ≤ x ∧ x ≤ hi) : btw x lo hi = true := decide_eq_true h
theorem btw_f {x lo hi : Int} (h : ¬ (lo ≤ x ∧ x ≤ hi)) : btw x lo hi = false := decide_eq_false h
theorem between_f (x lo hi : Int) : class_between.f x lo hi = some (btw x lo hi) := by
  unfold class_between.f btw
  by_cases h : x ≥ lo
  · rw [if_pos h]; congr 1; by_cases h2 : x ≤ hi
    · rw [decide_eq_true h2, decide_eq_true ⟨h, h2⟩]
    · rw [decide_eq_false h2, decide_eq_false (fun hc => h2 hc.2)]
  · rw [if_neg h, decide_eq_false (fun hc => h hc.1)]
/-- is a share one? -/
def fv (x : Nat) : Int := if (un x).2 = 21 then 21 else if (un x).2 = 0 then (if (un x).1 = 0 then 13 else 0) else 13
theorem fair_f (x : Nat) (hx : x < 18446744073709551616) : class_fair.f x = some (fv x) := by
  unfold class_fair.f share_Units.f fv
  rw [if_pos hx, Option.bind_some]
  by_cases h1 : (un x).2 = 21
  · rw [if_pos h1, if_pos h1, h1]
  · rw [if_neg h1, if_neg h1]
    by_cases h2 : (un x).2 = 0
    · rw [if_pos h2, if_pos h2]; split <;> rfl
    · rw [if_neg h2, if_neg h2]
theorem un_nonneg (x : Nat) : 0 ≤ (un x).1 := by unfold un; split; · exact Int.le_refl _
                                                 split; · exact Int.natCast_nonneg _
                                                 exact Int.le_refl _
/-- is a class right, or why not? -/
def crv (a0 a1 : Int) (a2 : Nat) (a3 a4 a5 a6 a7 a8 : Int) : Int :=
  if (btw a0 1 65535 && btw a1 0 65535) = false then 2
  else if a1 = a0 then 11
  else if fv a2 = 0 then
    (if btw a3 0 7 = false then 14
    else if (btw a4 1 65536 && btw a5 1 1024) = false then 16
    else if (btw a6 0 16 && (btw a7 (-1099511627776) 0 && btw a8 0 1099511627776)) = false then 2 else 0)
  else fv a2
theorem right_f (k : Nat) (hk : 2 ≤ k) (a0 a1 : Int) (a2 : Nat) (a3 a4 a5 a6 a7 a8 : Int) (a9 a10 : Bool) (h2 : a2 < 18446744073709551616) : class_Right.f k a0 a1 a2 a3 a4 a5 a6 a7 a8 a9 a10 = some (crv a0 a1 a2 a3 a4 a5 a6 a7 a8) := by
  obtain ⟨k, rfl⟩ : ∃ m, k = m + 2 := ⟨k - 2, by omega⟩
  unfold class_Right.f crv
  simp only [fair_f a2 h2, between_f, Option.bind_some, class_Right.j0, class_Right.j1]
  cases btw a0 1 65535 <;> cases btw a1 0 65535 <;> simp only [Bool.not_true, Bool.not_false, if_true, Bool.false_eq_true, if_false, Bool.and_self, Bool.and_false, Bool.false_and, Bool.and_true, Bool.true_eq_false]
  by_cases h3 : a1 = a0
  · rw [if_pos h3, if_pos h3]
  · rw [if_neg h3, if_neg h3]
    by_cases h4 : fv a2 = 0
    · rw [if_pos h4, if_pos h4]
      cases btw a3 0 7 <;> cases btw a4 1 65536 <;> cases btw a5 1 1024 <;> cases btw a6 0 16 <;> cases btw a7 (-1099511627776) 0 <;> cases btw a8 0 1099511627776 <;> rfl
    · rw [if_neg h4, if_neg h4]
theorem rr_e0 (k : Nat) (a0 a1 : Int) (a2 : Nat) (a3 a4 a5 a6 a7 a8 : Int) (a9 a10 : Bool) (h2 : a2 < 18446744073709551616) : flashlockref17_Right.f (k + 4) a0 a1 a2 a3 a4 a5 a6 a7 a8 a9 a10 = flashlockref17_Right.j0 (k + 4) (!(btw a0 1 65535 && btw a1 0 65535)) a0 a1 a2 a3 a4 a5 a6 a7 a8 a9 a10 := by
  unfold flashlockref17_Right.f
  by_cases h : a0 < 1
  · rw [if_pos h, btw_f (by omega)]; simp only [Bool.false_and, Bool.not_false]
  · rw [if_neg h]
    by_cases h' : a0 > 65535
    · rw [if_pos h', btw_f (by omega)]; simp only [Bool.false_and, Bool.not_false]
    · rw [if_neg h', btw_t (x := a0) (by omega)]
      by_cases g : a1 < 0
      · rw [if_pos g, btw_f (by omega)]; simp only [Bool.and_false, Bool.not_false]
      · rw [if_neg g]
        by_cases g' : a1 > 65535
        · rw [decide_eq_true g', btw_f (by omega)]; simp only [Bool.and_false, Bool.not_false]
        · rw [decide_eq_false g', btw_t (by omega)]; simp only [Bool.and_self, Bool.not_true]
theorem rr_e1 (k : Nat) (a0 a1 : Int) (a2 : Nat) (a3 a4 a5 a6 a7 a8 : Int) (a9 a10 : Bool) (h2 : a2 < 18446744073709551616) : ∀ b, flashlockref17_Right.j0 (k + 4) b a0 a1 a2 a3 a4 a5 a6 a7 a8 a9 a10 = if b = true then some 2 else if a1 = a0 then some 11 else if fv a2 = 21 then some 21 else flashlockref17_Right.j1 (k + 3) (decide (fv a2 ≠ 0)) a0 a1 a2 a3 a4 a5 a6 a7 a8 a9 a10 := by
  intro b
  simp only [flashlockref17_Right.j0]
  cases b
  · simp only [Bool.false_eq_true, if_false]
    by_cases h : a0 = a1
    · rw [if_pos h, if_pos h.symm]
    · rw [if_neg h, if_neg (fun hc => h hc.symm)]
      unfold flashlockref03_Units.f
      rw [if_pos h2, Option.bind_some]
      have hn := un_nonneg a2
      unfold fv
      by_cases h1 : (un a2).2 = 21
      · rw [if_pos h1, if_pos (by rw [if_pos h1])]
      · rw [if_neg h1, if_neg h1]
        by_cases h3 : (un a2).2 = 0
        · rw [if_pos h3, if_pos h3]
          by_cases h4 : (un a2).1 = 0
          · rw [if_pos h4, decide_eq_true (by omega)]; simp only [show (13 : Int) ≠ 21 from by decide, show ((13 : Int) ≠ 0) = True from eq_true (by decide), if_false, decide_true]
          · rw [if_neg h4, decide_eq_false (by omega)]; simp only [show ((0 : Int) = 21) = False from eq_false (by decide), ne_eq, not_true_eq_false, if_false, decide_false]
        · rw [if_neg h3, if_neg h3]; simp only [show ((13 : Int) = 21) = False from eq_false (by decide), show ((13 : Int) ≠ 0) = True from eq_true (by decide), if_false, decide_true]
  · rw [if_pos rfl, if_pos rfl]
theorem rr_e2 (k : Nat) (a0 a1 : Int) (a2 : Nat) (a3 a4 a5 a6 a7 a8 : Int) (a9 a10 : Bool) (h2 : a2 < 18446744073709551616) : ∀ b, flashlockref17_Right.j1 (k + 3) b a0 a1 a2 a3 a4 a5 a6 a7 a8 a9 a10 = if b = true then some 13 else flashlockref17_Right.j2 (k + 2) (!btw a3 0 7) a0 a1 a2 a3 a4 a5 a6 a7 a8 a9 a10 := by
  intro b
  simp only [flashlockref17_Right.j1]
  cases b
  · simp only [Bool.false_eq_true, if_false]
    by_cases g : a3 < 0
    · rw [if_pos g, btw_f (by omega)]; simp only [Bool.and_false, Bool.not_false]
    · rw [if_neg g]
      by_cases g' : a3 > 7
      · rw [decide_eq_true g', btw_f (by omega)]; simp only [Bool.and_false, Bool.not_false]
      · rw [decide_eq_false g', btw_t (by omega)]; simp only [Bool.and_self, Bool.not_true]
  · rw [if_pos rfl, if_pos rfl]
theorem rr_e3 (k : Nat) (a0 a1 : Int) (a2 : Nat) (a3 a4 a5 a6 a7 a8 : Int) (a9 a10 : Bool) (h2 : a2 < 18446744073709551616) : ∀ b, flashlockref17_Right.j2 (k + 2) b a0 a1 a2 a3 a4 a5 a6 a7 a8 a9 a10 = if b = true then some 14 else flashlockref17_Right.j3 (k + 1) (!(btw a4 1 65536 && btw a5 1 1024)) a0 a1 a2 a3 a4 a5 a6 a7 a8 a9 a10 := by
  intro b
  simp only [flashlockref17_Right.j2]
  cases b
  · simp only [Bool.false_eq_true, if_false]
    by_cases h : a4 < 1
    · rw [if_pos h, btw_f (by omega)]; simp only [Bool.false_and, Bool.not_false]
    · rw [if_neg h]
      by_cases h' : a4 > 65536
      · rw [if_pos h', btw_f (by omega)]; simp only [Bool.false_and, Bool.not_false]
      · rw [if_neg h', btw_t (x := a4) (by omega)]
        by_cases g : a5 < 1
        · rw [if_pos g, btw_f (by omega)]; simp only [Bool.and_false, Bool.not_false]
        · rw [if_neg g]
          by_cases g' : a5 > 1024
          · rw [decide_eq_true g', btw_f (by omega)]; simp only [Bool.and_false, Bool.not_false]
          · rw [decide_eq_false g', btw_t (by omega)]; simp only [Bool.and_self, Bool.not_true]
  · rw [if_pos rfl, if_pos rfl]
theorem rr_e4 (k : Nat) (a0 a1 : Int) (a2 : Nat) (a3 a4 a5 a6 a7 a8 : Int) (a9 a10 : Bool) (h2 : a2 < 18446744073709551616) : ∀ b, flashlockref17_Right.j3 (k + 1) b a0 a1 a2 a3 a4 a5 a6 a7 a8 a9 a10 = if b = true then some 16 else if (btw a6 0 16 && (btw a7 (-1099511627776) 0 && btw a8 0 1099511627776)) = false then some 2 else some 0 := by
  intro b
  simp only [flashlockref17_Right.j3]
  cases b
  · simp only [Bool.false_eq_true, if_false]
    by_cases h1 : 0 ≤ a6 ∧ a6 ≤ 16
    · rw [btw_t h1, if_neg (by omega), if_neg (by omega)]
      by_cases h2 : -1099511627776 ≤ a7 ∧ a7 ≤ 0
      · rw [btw_t h2, if_neg (by omega), if_neg (by omega)]
        by_cases h3 : 0 ≤ a8 ∧ a8 ≤ 1099511627776
        · rw [btw_t h3, if_neg (by omega), if_neg (by omega)]; rfl
        · rw [btw_f h3]
          by_cases h4 : a8 < 0
          · rw [if_pos h4]; rfl
          · rw [if_neg h4, if_pos (by omega)]; rfl
      · rw [btw_f h2]
        by_cases h4 : a7 < -1099511627776
        · rw [if_pos h4]; rfl
        · rw [if_neg h4, if_pos (by omega)]; rfl
    · rw [btw_f h1]
      by_cases h4 : a6 < 0
      · rw [if_pos h4]; rfl
      · rw [if_neg h4, if_pos (by omega)]; rfl
  · rw [if_pos rfl, if_pos rfl]
theorem rright_f (k : Nat) (hk : 4 ≤ k) (a0 a1 : Int) (a2 : Nat) (a3 a4 a5 a6 a7 a8 : Int) (a9 a10 : Bool) (h2 : a2 < 18446744073709551616) : flashlockref17_Right.f k a0 a1 a2 a3 a4 a5 a6 a7 a8 a9 a10 = some (crv a0 a1 a2 a3 a4 a5 a6 a7 a8) := by
  obtain ⟨k, rfl⟩ : ∃ m, k = m + 4 := ⟨k - 4, by omega⟩
  rw [rr_e0 k _ _ _ _ _ _ _ _ _ _ _ h2, rr_e1 k _ _ _ _ _ _ _ _ _ _ _ h2, rr_e2 k _ _ _ _ _ _ _ _ _ _ _ h2, rr_e3 k _ _ _ _ _ _ _ _ _ _ _ h2, rr_e4 k _ _ _ _ _ _ _ _ _ _ _ h2]
  unfold crv
  cases hb : (btw a0 1 65535 && btw a1 0 65535)
  · rfl
  · simp only [Bool.not_true, Bool.false_eq_true, if_false, Bool.true_eq_false]
    by_cases h3 : a1 = a0
    · rw [if_pos h3, if_pos h3]
    · rw [if_neg h3, if_neg h3]
      by_cases h4 : fv a2 = 0
      · rw [h4, if_neg (by decide), if_neg (by decide), if_pos rfl]
        cases btw a3 0 7 <;> cases btw a4 1 65536 <;> cases btw a5 1 1024 <;> cases btw a6 0 16 <;> cases btw a7 (-1099511627776) 0 <;> cases btw a8 0 1099511627776 <;> rfl
      · have h5 : fv a2 = 21 ∨ fv a2 = 13 := by
          revert h4; unfold fv
          split
          · intro _; exact .inl rfl
          · split
            · split
              · intro _; exact .inr rfl
              · intro hc; exact absurd rfl hc
            · intro _; exact .inr rfl
        rcases h5 with h5 | h5
        · rw [h5]; rfl
        · rw [h5]; rfl
end Go.Proofs.Ytclfambjkolckaa.Pure
