-- written by wip/tools/pr.py over the kit's print.py, out of the translation; Lean checks it
import Derived.Test.YtclfambjkolckaaPIx0
namespace Go.Proofs.Ytclfambjkolckaa.PI
open Go.RowKit Go.Proofs.YtclfambjkolckaaW.PrintWords Go.Proofs.YtclfambjkolckaaW.PrintLast Go.Proofs.YtclfambjkolckaaW.PrintMore
attribute [local go_sem] max2_int min2_int max_two min_two max_three min_three max_four min_four   -- for this text's walks alone
set_option linter.unusedVariables false
set_option linter.unusedSimpArgs false

/-! ### sat_Hold: function 141 -/
def sat_Hold.f (a0 : Int) : Option (Int) := some (Go.Proofs.Ytclfambjkolckaa.SatDiv.hd a0)
theorem sat_Hold.calls (a0 : Int) (r : Int) (w : World) (h : sat_Hold.f a0 = some r) :
    Calls Try.prog 141 #[.int .i64 a0] w fun e w' => e = .returned (.int .i64 r) ∧ Drawn0 w w' := by
  obtain rfl := Option.some.inj h
  refine (Go.Proofs.Ytclfambjkolckaa.SatDiv.hold_calls a0 w).mono ?_
  rintro e w' ⟨he, rfl⟩
  exact ⟨he, Drawn0.refl _⟩

/-! ### sat_Add: function 116 -/
def sat_Add.f (a0 : Int) (a1 : Int) : Option (Int) := some (Go.Proofs.Ytclfambjkolckaa.SatDiv.addV a0 a1)
theorem sat_Add.calls (a0 : Int) (a1 : Int) (r : Int) (w : World) (h : sat_Add.f a0 a1 = some r) :
    Calls Try.prog 116 #[.int .i64 a0, .int .i64 a1] w fun e w' => e = .returned (.int .i64 r) ∧ Drawn0 w w' := by
  obtain rfl := Option.some.inj h
  refine (Go.Proofs.Ytclfambjkolckaa.SatDiv.add_calls a0 a1 w).mono ?_
  rintro e w' ⟨he, rfl⟩
  exact ⟨he, Drawn0.refl _⟩

-- NOT PRINTED: function 133 (math_IsNaN)

-- NOT PRINTED: function 75 (math_Float64frombits)

-- NOT PRINTED: function 136 (math_Float64bits)

-- NOT PRINTED: function 165 (math_Abs)

-- NOT PRINTED: function 134 (math_IsInf)

-- NOT PRINTED: function 135 (math_Signbit)

-- NOT PRINTED: function 78 (share_Kind)

-- NOT PRINTED: function 131 (math_RoundToEven)

-- NOT PRINTED: function 163 (math_archLdexp)

-- NOT PRINTED: function 128 (math_Inf)

-- NOT PRINTED: function 170 (math_normalize)

-- NOT PRINTED: function 171 (math_Copysign)

-- NOT PRINTED: function 164 (math_ldexp)

-- NOT PRINTED: function 132 (math_Ldexp)

/-! ### share_Units: function 76 -/
def share_Units.f (a0 : Nat) : Option (Int × Int) := if a0 < 18446744073709551616 then some (Go.Proofs.Ytclfambjkolckaa.Fl.un a0) else none
theorem share_Units.calls (a0 : Nat) (r1 : Int) (r2 : Int) (w : World) (h : share_Units.f a0 = some (r1, r2)) :
    Calls Try.prog 76 #[.float .f64 a0] w fun e w' => e = .returned (.tuple #[.int .i64 r1, .int .i64 r2]) ∧ Drawn0 w w' := by
  unfold share_Units.f at h
  by_cases hc : a0 < 18446744073709551616
  · rw [if_pos hc] at h
    have h := Option.some.inj h
    refine (Go.Proofs.Ytclfambjkolckaa.Fl.units_calls a0 hc w).mono ?_
    rw [h]
    rintro e w' ⟨he, rfl⟩
    exact ⟨he, Drawn0.refl _⟩
  · rw [if_neg hc] at h; cases h

/-! ### class_fair: function 137 -/
def class_fair.f (a0 : Nat) : Option (Int) := (share_Units.f a0).bind fun bt101 => (if bt101.2 = 21 then (some bt101.2) else (if bt101.2 = 0 then (if bt101.1 = 0 then (some 13) else (some 0)) else (some 13)))
set_option maxHeartbeats 8000000 in
set_option maxRecDepth 100000 in
theorem class_fair.calls (a0 : Nat) (r : Int) (w : World) (h : class_fair.f a0 = some r) :
    Calls Try.prog 137 #[.float .f64 a0] w fun e w' => e = .returned (.int .i64 r) ∧ Drawn0 w w' := by
  have H : ((share_Units.f a0).bind fun bt101 => (if bt101.2 = 21 then (some bt101.2) else (if bt101.2 = 0 then (if bt101.1 = 0 then (some 13) else (some 0)) else (some 13)))) = some r := h
  clear h
  replace H := Option.bind_eq_some_iff.mp H
  obtain ⟨⟨t101, t102⟩, A20, H⟩ := H
  replace H : (if t102 = 21 then (some t102) else (if t102 = 0 then (if t101 = 0 then (some 13) else (some 0)) else (some 13))) = some r := H
  have A2 := Aside0.mk A20
  clear A20
  by_cases c3 : t102 = 21
  · rw [if_pos c3] at H
    have c3b0 : (t102 == 21) = true := beq_iff_eq.mpr c3
    have c3b1 : (t102 != 21) = false := bne_eq_false_iff_eq.mpr c3
    clear c3
    obtain rfl := Option.some.inj H
    go_enter Try.func137, Try.ntmps137
    go_wp2_with (first | ((with_reducible refine gate_callee (f := 76) rfl ?_); refine goesL_ (some 7) rfl rfl Try.func76 (by kernel_rfl) rfl #[.float .f64 a0] rfl (by (try simp only [List.map_toArray, List.map_cons, List.map_nil]); first | done | rfl | (simp only [List.length_drop, List.length_take]; rfl)) ?_; (with_reducible refine (share_Units.calls a0 t101 t102 _ A2.out).mono ?_); rintro e w' ⟨rfl, ⟨nd, rfl⟩⟩; refine ⟨_, rfl, ?_⟩))
    go_ret
    exact ⟨by first | rfl | (simp; done) | (simp [*]; done), by repeat (first | exact Drawn0.refl _ | apply Drawn0.step)⟩
  · rw [if_neg c3] at H
    have c3b0 : (t102 == 21) = false := beq_eq_false_iff_ne.mpr c3
    have c3b1 : (t102 != 21) = true := bne_iff_ne.mpr c3
    by_cases c4 : t102 = 0
    · rw [if_pos c4] at H
      have c4b0 : (t102 == 0) = true := beq_iff_eq.mpr c4
      have c4b1 : (t102 != 0) = false := bne_eq_false_iff_eq.mpr c4
      clear c4
      by_cases c5 : t101 = 0
      · rw [if_pos c5] at H
        have c5b0 : (t101 == 0) = true := beq_iff_eq.mpr c5
        have c5b1 : (t101 != 0) = false := bne_eq_false_iff_eq.mpr c5
        clear c5
        obtain rfl := Option.some.inj H
        go_enter Try.func137, Try.ntmps137
        go_wp2_with (first | ((with_reducible refine gate_callee (f := 76) rfl ?_); refine goesL_ (some 7) rfl rfl Try.func76 (by kernel_rfl) rfl #[.float .f64 a0] rfl (by (try simp only [List.map_toArray, List.map_cons, List.map_nil]); first | done | rfl | (simp only [List.length_drop, List.length_take]; rfl)) ?_; (with_reducible refine (share_Units.calls a0 t101 t102 _ A2.out).mono ?_); rintro e w' ⟨rfl, ⟨nd, rfl⟩⟩; refine ⟨_, rfl, ?_⟩))
        go_ret
        exact ⟨by first | rfl | (simp; done) | (simp [*]; done), by repeat (first | exact Drawn0.refl _ | apply Drawn0.step)⟩
      · rw [if_neg c5] at H
        have c5b0 : (t101 == 0) = false := beq_eq_false_iff_ne.mpr c5
        have c5b1 : (t101 != 0) = true := bne_iff_ne.mpr c5
        obtain rfl := Option.some.inj H
        go_enter Try.func137, Try.ntmps137
        go_wp2_with (first | ((with_reducible refine gate_callee (f := 76) rfl ?_); refine goesL_ (some 7) rfl rfl Try.func76 (by kernel_rfl) rfl #[.float .f64 a0] rfl (by (try simp only [List.map_toArray, List.map_cons, List.map_nil]); first | done | rfl | (simp only [List.length_drop, List.length_take]; rfl)) ?_; (with_reducible refine (share_Units.calls a0 t101 t102 _ A2.out).mono ?_); rintro e w' ⟨rfl, ⟨nd, rfl⟩⟩; refine ⟨_, rfl, ?_⟩))
        go_ret
        exact ⟨by first | rfl | (simp; done) | (simp [*]; done), by repeat (first | exact Drawn0.refl _ | apply Drawn0.step)⟩
    · rw [if_neg c4] at H
      have c4b0 : (t102 == 0) = false := beq_eq_false_iff_ne.mpr c4
      have c4b1 : (t102 != 0) = true := bne_iff_ne.mpr c4
      obtain rfl := Option.some.inj H
      go_enter Try.func137, Try.ntmps137
      go_wp2_with (first | ((with_reducible refine gate_callee (f := 76) rfl ?_); refine goesL_ (some 7) rfl rfl Try.func76 (by kernel_rfl) rfl #[.float .f64 a0] rfl (by (try simp only [List.map_toArray, List.map_cons, List.map_nil]); first | done | rfl | (simp only [List.length_drop, List.length_take]; rfl)) ?_; (with_reducible refine (share_Units.calls a0 t101 t102 _ A2.out).mono ?_); rintro e w' ⟨rfl, ⟨nd, rfl⟩⟩; refine ⟨_, rfl, ?_⟩))
      go_ret
      exact ⟨by first | rfl | (simp; done) | (simp [*]; done), by repeat (first | exact Drawn0.refl _ | apply Drawn0.step)⟩

/-! ### class_between: function 138 -/
def class_between.f (a0 : Int) (a1 : Int) (a2 : Int) : Option (Bool) := if a0 ≥ a1 then (some (decide (a0 ≤ a2))) else (some false)
set_option maxHeartbeats 8000000 in
set_option maxRecDepth 100000 in
theorem class_between.calls (a0 : Int) (a1 : Int) (a2 : Int) (r : Bool) (w : World) (h : class_between.f a0 a1 a2 = some r) :
    Calls Try.prog 138 #[.int .i64 a0, .int .i64 a1, .int .i64 a2] w fun e w' => e = .returned (.bool r) ∧ Drawn0 w w' := by
  have H : (if a0 ≥ a1 then (some (decide (a0 ≤ a2))) else (some false)) = some r := h
  clear h
  by_cases c4 : a0 ≥ a1
  · rw [if_pos c4] at H
    have c4b0 : decide (a1 ≤ a0) = true := decide_eq_true c4
    clear c4
    obtain rfl := Option.some.inj H
    go_enter Try.func138, Try.ntmps138
    go_wp2
    go_ret
    exact ⟨by first | rfl | (simp; done) | (simp [*]; done), by repeat (first | exact Drawn0.refl _ | apply Drawn0.step)⟩
  · rw [if_neg c4] at H
    have c4b0 : decide (a1 ≤ a0) = false := decide_eq_false c4
    clear c4
    obtain rfl := Option.some.inj H
    go_enter Try.func138, Try.ntmps138
    go_wp2
    go_ret
    exact ⟨by first | rfl | (simp; done) | (simp [*]; done), by repeat (first | exact Drawn0.refl _ | apply Drawn0.step)⟩

end Go.Proofs.Ytclfambjkolckaa.PI
