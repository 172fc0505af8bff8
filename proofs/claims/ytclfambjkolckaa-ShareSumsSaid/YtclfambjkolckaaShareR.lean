/- The document's share functions, by contract: None, below, Kind, Same, Less, Clamp. -/
import Derived.Test.YtclfambjkolckaaShareW2
namespace Go.Proofs.Ytclfambjkolckaa.Fl
open Go Go.RowKit Ieee Go.Proofs.Ytclfambjkolckaa.ShareM
set_option linter.unusedVariables false
set_option linter.unusedSimpArgs false
set_option maxRecDepth 20000
theorem none_is (x : Nat) (b : Bool) (h : decide (9218868437227405312 < rg x) = b) (w : World) : Calls Try.prog 129 #[.float .f64 x] w fun e w' => e = .returned (.bool b) ∧ w = w' := by
  have h1 : (FloatKind.f64.format.order x x != some Ordering.eq) = b := by rw [nan_dec, h]
  clear h
  go_enter Try.func129, Try.ntmps129
  go_wp2
  go_ret
  exact ⟨rfl, rfl⟩
theorem below_1 (x : Nat) (h1 : (FloatKind.f64.format.order x 0 == some Ordering.lt) = true) (w : World) : Calls Try.prog 130 #[.float .f64 x] w fun e w' => e = .returned (.bool true) ∧ w = w' := by
  go_enter Try.func130, Try.ntmps130
  go_wp2
  go_ret
  exact ⟨rfl, rfl⟩
theorem below_2 (x : Nat) (h1 : (FloatKind.f64.format.order x 0 == some Ordering.lt) = false) (h2 : (FloatKind.f64.format.order x 0 == some Ordering.eq) = false) (w : World) : Calls Try.prog 130 #[.float .f64 x] w fun e w' => e = .returned (.bool false) ∧ w = w' := by
  go_enter Try.func130, Try.ntmps130
  go_wp2
  go_ret
  exact ⟨rfl, rfl⟩
theorem below_3 (x r : Nat) (b : Bool) (h1 : (FloatKind.f64.format.order x 0 == some Ordering.lt) = false) (h2 : (FloatKind.f64.format.order x 0 == some Ordering.eq) = true) (hr : floatBits .quo .f64 4607182418800017408 x = some r) (h3 : (FloatKind.f64.format.order r 0 == some Ordering.lt) = b) (w : World) : Calls Try.prog 130 #[.float .f64 x] w fun e w' => e = .returned (.bool b) ∧ w = w' := by
  have hc := fun w => run_float_arith (P := Try.prog) w .quo 79 .f64 4607182418800017408 x r hr
  clear hr
  go_enter Try.func130, Try.ntmps130
  go_wp2
  go_ret
  exact ⟨rfl, rfl⟩
theorem below_is (x : Nat) (hx : x < 18446744073709551616) (hf : rg x ≤ 9218868437227405312) (w : World) : Calls Try.prog 130 #[.float .f64 x] w fun e w' => e = .returned (.bool (ng x)) ∧ w = w' := by
  by_cases h0 : rg x = 0
  · have ho := o_nul h0
    cases hn : ng x
    · have : x = 0 := by have := of_word hx; rw [hn, h0] at this; exact this.symm
      subst this
      exact below_3 0 9218868437227405312 false (by decide) (by decide) (by decide) (by decide) w
    · have : x = 9223372036854775808 := by have := of_word hx; rw [hn, h0] at this; exact this.symm
      subst this
      exact below_3 9223372036854775808 18442240474082181120 true (by decide) (by decide) (by decide) (by decide) w
  · cases hn : ng x
    · exact below_2 x (by rw [o_pos hf hn h0]; rfl) (by rw [o_pos hf hn h0]; rfl) w
    · exact below_1 x (by rw [o_neg hf hn h0]; rfl) w
set_option maxHeartbeats 1000000 in
theorem rsame_nan (x y : Nat) (a b : Bool) (hab : (a || b) = true) (ha : decide (9218868437227405312 < rg x) = a) (hb : decide (9218868437227405312 < rg y) = b) (w : World) : Calls Try.prog 72 #[.float .f64 x, .float .f64 y] w fun e w' => e = .returned (.bool (a && b)) ∧ w = w' := by
  have HA := Lib.hid ha; have HB := Lib.hid hb; clear ha hb
  cases a <;> cases b <;> first | exact absurd hab (by decide) |
  (clear hab
   go_enter Try.func72, Try.ntmps72
   go_wp2_with (first | ((with_reducible refine (none_is x _ HA.out _).mono ?_); rintro e w' ⟨rfl, rfl⟩) | ((with_reducible refine (none_is y _ HB.out _).mono ?_); rintro e w' ⟨rfl, rfl⟩))
   go_ret
   exact ⟨rfl, rfl⟩)
set_option maxHeartbeats 1000000 in
theorem rsame_num (x y : Nat) (hx : x < 18446744073709551616) (hy : y < 18446744073709551616) (hfx : rg x ≤ 9218868437227405312) (hfy : rg y ≤ 9218868437227405312) (c p q : Bool) (hc : (FloatKind.f64.format.order x y == some Ordering.eq) = c) (hp : ng x = p) (hq : ng y = q) (w : World) : Calls Try.prog 72 #[.float .f64 x, .float .f64 y] w fun e w' => e = .returned (.bool (c && (p == q))) ∧ w = w' := by
  have HA := Lib.hid (decide_eq_false (show ¬ 9218868437227405312 < rg x by omega)); have HB := Lib.hid (decide_eq_false (show ¬ 9218868437227405312 < rg y by omega))
  have HX := Lib.hid (fun w => (below_is x hx hfx w)); have HY := Lib.hid (fun w => (below_is y hy hfy w))
  rw [hp] at HX; rw [hq] at HY
  clear hp hq hfx hfy
  cases c <;> cases p <;> cases q <;>
  (go_enter Try.func72, Try.ntmps72
   go_wp2_with (first | ((with_reducible refine (none_is x _ HA.out _).mono ?_); rintro e w' ⟨rfl, rfl⟩) | ((with_reducible refine (none_is y _ HB.out _).mono ?_); rintro e w' ⟨rfl, rfl⟩) | ((with_reducible refine (HX.out _).mono ?_); rintro e w' ⟨rfl, rfl⟩) | ((with_reducible refine (HY.out _).mono ?_); rintro e w' ⟨rfl, rfl⟩))
   go_ret
   exact ⟨rfl, rfl⟩)
theorem eq_iff {x y : Nat} (hx : x < 18446744073709551616) (hy : y < 18446744073709551616) (hfx : rg x ≤ 9218868437227405312) (hfy : rg y ≤ 9218868437227405312) : ((FloatKind.f64.format.order x y == some Ordering.eq) && (ng x == ng y)) = decide (x = y) := by
  rw [fo_sv hfx hfy]
  by_cases h : x = y
  · subst h; rw [cmp_eq, decide_eq_true rfl]; simp
  · rw [decide_eq_false h]
    by_cases hn : ng x = ng y
    · have : sv x ≠ sv y := fun hc => h (sv_inj hx hy hc hn)
      have h2 : compare (sv x) (sv y) ≠ .eq := fun hc => this (Int.compare_eq_eq.1 hc)
      rw [hn]; simpa using h2
    · rw [show (ng x == ng y) = false from beq_eq_false_iff_ne.2 hn, Bool.and_false]
theorem rsame_calls (x y : Nat) (hx : x < 18446744073709551616) (hy : y < 18446744073709551616) (w : World) : Calls Try.prog 72 #[.float .f64 x, .float .f64 y] w fun e w' => e = .returned (.bool (smv x y)) ∧ w = w' := by
  unfold smv
  by_cases h : (decide (9218868437227405312 < rg x) || decide (9218868437227405312 < rg y)) = true
  · refine (rsame_nan x y _ _ h rfl rfl w).mono fun e w' he => ⟨?_, he.2⟩
    rw [he.1]
    congr 2
    by_cases hxy : x = y
    · subst hxy; rw [decide_eq_true rfl]; simp at h ⊢; exact h
    · rw [decide_eq_false hxy, Bool.or_false]
  · have h1 : ¬ 9218868437227405312 < rg x := fun hc => h (by rw [decide_eq_true hc]; rfl)
    have h2 : ¬ 9218868437227405312 < rg y := fun hc => h (by rw [decide_eq_true hc]; simp)
    refine (rsame_num x y hx hy (by omega) (by omega) _ _ _ rfl rfl rfl w).mono fun e w' he => ⟨?_, he.2⟩
    rw [he.1, eq_iff hx hy (by omega) (by omega), decide_eq_false h1, Bool.false_and, Bool.false_or]
theorem rclamp_calls (x : Nat) (hx : x < 18446744073709551616) (w : World) : Calls Try.prog 86 #[.float .f64 x] w fun e w' => e = .returned (.float .f64 (clv x)) ∧ w = w' := by
  have main : ∀ a b : Bool, (FloatKind.f64.format.order x 4607182418800017408 == some Ordering.gt) = a → (FloatKind.f64.format.order x 0 == some Ordering.gt) = b → Calls Try.prog 86 #[.float .f64 x] w fun e w' => e = .returned (.float .f64 (if a then 4607182418800017408 else if b then x else 0)) ∧ w = w' := by
    intro a b ha hb
    cases a <;> cases b <;>
    (go_enter Try.func86, Try.ntmps86
     go_wp2
     go_ret
     exact ⟨rfl, rfl⟩)
  refine (main _ _ rfl rfl).mono fun e w' he => ⟨?_, he.2⟩
  rw [he.1]
  congr 2
  by_cases h0 : 9218868437227405312 < rg x
  · have e0 : clv x = 0 := by unfold clv; exact if_pos (.inl h0)
    rw [fo_nan (.inl h0), fo_nan (.inl h0), e0]; rfl
  · have hf : rg x ≤ 9218868437227405312 := by omega
    by_cases h2 : rg x = 0
    · have e0 : clv x = 0 := by unfold clv; exact if_pos (.inr (.inr h2))
      rw [nul_gt h2, o_nul h2, e0]; rfl
    · cases hn : ng x
      · have e0 : clv x = if 4607182418800017408 < rg x then 4607182418800017408 else x := by unfold clv; exact if_neg (by rw [hn]; simp; omega)
        rw [one_gt hf hn, o_pos hf hn h2, e0]
        by_cases h3 : 4607182418800017408 < rg x
        · rw [decide_eq_true h3, if_pos rfl, if_pos h3]
        · rw [decide_eq_false h3, if_neg (by decide), if_neg h3]; rfl
      · have e0 : clv x = 0 := by unfold clv; exact if_pos (.inr (.inl hn))
        rw [o_neg hf hn h2, e0, fo_sv hf (by decide), sv_one, Int.compare_eq_lt.2 (by have := sv_neg hn h2; have := pw_pos 1074; omega)]; rfl
end Go.Proofs.Ytclfambjkolckaa.Fl
