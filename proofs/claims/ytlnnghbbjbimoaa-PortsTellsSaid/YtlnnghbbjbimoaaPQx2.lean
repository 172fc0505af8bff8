-- written by wip/tools/pr.py over the kit's print.py, out of the translation; Lean checks it
import Derived.Test.YtlnnghbbjbimoaaPQx0
import Derived.Test.YtlnnghbbjbimoaaPQx1
namespace Go.Proofs.Ytlnnghbbjbimoaa.PQ
open Go.RowKit Go.Proofs.YtlnnghbbjbimoaaW.PrintWords Go.Proofs.YtlnnghbbjbimoaaW.PrintLast Go.Proofs.YtlnnghbbjbimoaaW.PrintMore
attribute [local go_sem] max2_int min2_int max_two min_two max_three min_three max_four min_four   -- for this text's walks alone
set_option linter.unusedVariables false
set_option linter.unusedSimpArgs false

/-! ### flashlocklaw13_PortsTells: function 7 -/
def flashlocklaw13_PortsTells.j0 : Nat → Int → Int → Int → Int → Int → Int → Int → Int → Option (Bool)
  | 0, _, _, _, _, _, _, _, _ => none
  | k + 1, x0, x5, x6, x7, x8, x9, x10, x11 => if x0 = 17 then (if x5 = x8 then (if x6 = x9 then (if x7 = x10 then ((ports_Least.f x0).bind fun t119 => (if t119 = 8 then ((ports_Has.f x0).bind fun t120 => (if (t120 == (decide (8 > 0))) = true then ((flashlocklaw13_lives.f).bind fun t121 => (some t121)) else (some false))) else (some false))) else (some false)) else (some false)) else (some false)) else (if x5 = x8 then (if x6 = x9 then (if x7 = x10 then ((ports_Least.f x0).bind fun t122 => (if t122 = x11 then ((ports_Has.f x0).bind fun t123 => (if (t123 == (decide (x11 > 0))) = true then ((flashlocklaw13_lives.f).bind fun t124 => (some t124)) else (some false))) else (some false))) else (some false)) else (some false)) else (some false))
def flashlocklaw13_PortsTells.f (k : Nat) (a0 : Int) (a1 : ByteArray) : Option (Bool) := if (a1.size : Int) > 200 then ((flashlocklaw13_lives.f).bind fun t112 => (some t112)) else ((ports_Of.f a0 a1).bind fun bt113 => ((flashlockref13_Of.f k a0 a1).bind fun bt116 => (if a0 = 6 then (flashlocklaw13_PortsTells.j0 k a0 bt113.1 bt113.2.1 bt113.2.2 bt116.1 bt116.2.1 bt116.2.2 20) else (flashlocklaw13_PortsTells.j0 k a0 bt113.1 bt113.2.1 bt113.2.2 bt116.1 bt116.2.1 bt116.2.2 0))))
theorem flashlocklaw13_PortsTells.mono_l : ∀ k, (∀ y0 y1 y2 y3 y4 y5 y6 y7, LeO (flashlocklaw13_PortsTells.j0 k y0 y1 y2 y3 y4 y5 y6 y7) (flashlocklaw13_PortsTells.j0 (k + 1) y0 y1 y2 y3 y4 y5 y6 y7))
  | 0 => fun _ _ _ _ _ _ _ _ r h => by simp [flashlocklaw13_PortsTells.j0] at h
  | k + 1 => by
    have ih0 := flashlocklaw13_PortsTells.mono_l k
    · intro y0 y1 y2 y3 y4 y5 y6 y7
      unfold flashlocklaw13_PortsTells.j0
      repeat' first
      | (with_reducible exact ih0 _ _ _ _ _ _ _ _)
      | (with_reducible exact flashlockref13_Of.mono _ _ _)
      | (with_reducible exact LeO.refl _)
      | (with_reducible exact LeO.none _)
      | (with_reducible refine LeO.ite ?_ ?_)
      | (with_reducible refine LeO.bind ?_ (fun _ => ?_))
      | exact ih0 _ _ _ _ _ _ _ _
      | exact flashlockref13_Of.mono _ _ _
      | exact LeO.none _
      | refine LeO.ite ?_ ?_
      | refine LeO.bind ?_ (fun _ => ?_)
theorem flashlocklaw13_PortsTells.mono : ∀ a0 a1 k, LeO (flashlocklaw13_PortsTells.f k a0 a1) (flashlocklaw13_PortsTells.f (k + 1) a0 a1) := by
  intro a0 a1 k
  have ih0 := flashlocklaw13_PortsTells.mono_l k
  unfold flashlocklaw13_PortsTells.f
  repeat' first
      | (with_reducible exact ih0 _ _ _ _ _ _ _ _)
      | (with_reducible exact flashlockref13_Of.mono _ _ _)
      | (with_reducible exact LeO.refl _)
      | (with_reducible exact LeO.none _)
      | (with_reducible refine LeO.ite ?_ ?_)
      | (with_reducible refine LeO.bind ?_ (fun _ => ?_))
      | exact ih0 _ _ _ _ _ _ _ _
      | exact flashlockref13_Of.mono _ _ _
      | exact LeO.none _
      | refine LeO.ite ?_ ?_
      | refine LeO.bind ?_ (fun _ => ?_)
set_option maxHeartbeats 8000000 in
set_option maxRecDepth 100000 in
theorem flashlocklaw13_PortsTells.calls (k : Nat) (a0 : Int) (a1 : ByteArray) (r : Bool) (w : World) (h : flashlocklaw13_PortsTells.f k a0 a1 = some r) :
    Calls Try.prog 7 #[.int .i64 a0, .string a1] w fun e w' => e = .returned (.bool r) ∧ Below w.heap.size w w' := by
  have HB := Aside0.mk (Below.refl w.heap.size w)
  have H : (if (a1.size : Int) > 200 then ((flashlocklaw13_lives.f).bind fun t112 => (some t112)) else ((ports_Of.f a0 a1).bind fun bt113 => ((flashlockref13_Of.f k a0 a1).bind fun bt116 => (if a0 = 6 then (flashlocklaw13_PortsTells.j0 k a0 bt113.1 bt113.2.1 bt113.2.2 bt116.1 bt116.2.1 bt116.2.2 20) else (flashlocklaw13_PortsTells.j0 k a0 bt113.1 bt113.2.1 bt113.2.2 bt116.1 bt116.2.1 bt116.2.2 0))))) = some r := h
  clear h
  by_cases c3 : (a1.size : Int) > 200
  · rw [if_pos c3] at H
    have c3b0 : decide (200 < (a1.size : Int)) = true := decide_eq_true c3
    have c3b1 : decide (200 < a1.size) = true := decide_eq_true (by omega)
    clear c3
    replace H := Option.bind_eq_some_iff.mp H
    obtain ⟨t112, A40, H⟩ := H
    replace H : (some t112) = some r := H
    have A4 := Aside0.mk A40
    clear A40
    obtain rfl := Option.some.inj H
    go_enter Try.func7, Try.ntmps7
    go_wp2_with (first | ((with_reducible refine gate_callee (f := 41) rfl ?_); refine goesL_ (some 15) rfl rfl Try.func41 (by kernel_rfl) rfl #[] rfl (by (try simp only [List.map_toArray, List.map_cons, List.map_nil]); first | done | rfl | (simp only [List.length_drop, List.length_take]; rfl)) ?_; (with_reducible refine (flashlocklaw13_lives.calls  t112 _ A4.out).mono ?_); rintro e w5 ⟨rfl, hb⟩; refine ⟨_, rfl, ?_⟩; have n0_ := Aside0.mk (below_step (by repeat (first | (with_reducible first | exact HB.out | apply below_alloc | apply pw_below_drewN | apply below_drew1) | exact HB.out)) hb); clear HB; have HB := n0_; clear n0_; (try clear hb); (try clear hb2); (try clear hk); (try clear hi)))
    go_ret
    exact ⟨by first | rfl | (simp [errW_none, errW_some] <;> rfl) | (simp [*, errW_none, errW_some] <;> rfl), by repeat (first | (with_reducible first | exact HB.out | apply below_alloc | apply pw_below_drewN | apply below_drew1) | exact HB.out)⟩
  · rw [if_neg c3] at H
    have c3b0 : decide (200 < (a1.size : Int)) = false := decide_eq_false c3
    have c3b1 : decide (200 < a1.size) = false := decide_eq_false (by omega)
    clear c3
    replace H := Option.bind_eq_some_iff.mp H
    obtain ⟨⟨t113, t114, t115⟩, A60, H⟩ := H
    replace H : ((flashlockref13_Of.f k a0 a1).bind fun bt116 => (if a0 = 6 then (flashlocklaw13_PortsTells.j0 k a0 t113 t114 t115 bt116.1 bt116.2.1 bt116.2.2 20) else (flashlocklaw13_PortsTells.j0 k a0 t113 t114 t115 bt116.1 bt116.2.1 bt116.2.2 0))) = some r := H
    have A6 := Aside0.mk A60
    clear A60
    replace H := Option.bind_eq_some_iff.mp H
    obtain ⟨⟨t116, t117, t118⟩, A70, H⟩ := H
    replace H : (if a0 = 6 then (flashlocklaw13_PortsTells.j0 k a0 t113 t114 t115 t116 t117 t118 20) else (flashlocklaw13_PortsTells.j0 k a0 t113 t114 t115 t116 t117 t118 0)) = some r := H
    have A7 := Aside0.mk A70
    clear A70
    have HC8 := Aside0.mk H
    clear H
    go_enter Try.func7, Try.ntmps7
    go_upto_if 31 with (first | ((with_reducible refine gate_callee (f := 42) rfl ?_); refine goesL_ (some 19) rfl rfl Try.func42 (by kernel_rfl) rfl #[.int .i64 a0, .string a1] rfl (by (try simp only [List.map_toArray, List.map_cons, List.map_nil]); first | done | rfl | (simp only [List.length_drop, List.length_take]; rfl)) ?_; (with_reducible refine (ports_Of.calls a0 a1 t113 t114 t115 _ A6.out).mono ?_); rintro e w9 ⟨rfl, hb⟩; refine ⟨_, rfl, ?_⟩; have n0_ := Aside0.mk (below_step (by repeat (first | (with_reducible first | exact HB.out | apply below_alloc | apply pw_below_drewN | apply below_drew1) | exact HB.out)) hb); clear HB; have HB := n0_; clear n0_; (try clear hb); (try clear hb2); (try clear hk); (try clear hi)) | ((with_reducible refine gate_callee (f := 43) rfl ?_); refine goesL_ (some 26) rfl rfl Try.func43 (by kernel_rfl) rfl #[.int .i64 a0, .string a1] rfl (by (try simp only [List.map_toArray, List.map_cons, List.map_nil]); first | done | rfl | (simp only [List.length_drop, List.length_take]; rfl)) ?_; (with_reducible refine (flashlockref13_Of.calls k a0 a1 t116 t117 t118 _ A7.out).mono ?_); rintro e w' ⟨rfl, ⟨nd, rfl⟩⟩; refine ⟨_, rfl, ?_⟩))
    (try simp only [Act.put, List.setIfInBounds_toArray, List.set_cons_zero, List.set_cons_succ])
    go_cut [11] (fun v11 wc => ∃ (kq : Nat) (x11_7 : Int), v11 = .int .i64 x11_7 ∧ Aside0 (flashlocklaw13_PortsTells.j0 kq a0 t113 t114 t115 t116 t117 t118 x11_7 = some r) ∧ Aside0 (kq ≤ k) ∧ Aside0 (Below w.heap.size w wc))
    case first =>
      have H := HC8.out
      clear HC8
      by_cases c10 : a0 = 6
      · rw [if_pos c10] at H
        have c10b0 : (a0 == 6) = true := beq_iff_eq.mpr c10
        have c10b1 : (a0 != 6) = false := bne_eq_false_iff_eq.mpr c10
        clear c10
        (first | rw [c10b0] | (simp only [i64_w, i32_w]; rw [c10b0]) | skip)
        have H' := Aside0.mk H
        clear H
        go_wp2
        go_meet
        case rel => exact ⟨_, (20), (by first | rfl | (simp; done) | (simp [*]; done)), H', ⟨by first | omega | exact Nat.le_refl _⟩, ⟨by repeat (first | (with_reducible first | exact HB.out | apply below_alloc | apply pw_below_drewN | apply below_drew1) | exact HB.out)⟩⟩
      · rw [if_neg c10] at H
        have c10b0 : (a0 == 6) = false := beq_eq_false_iff_ne.mpr c10
        have c10b1 : (a0 != 6) = true := bne_iff_ne.mpr c10
        (first | rw [c10b0] | (simp only [i64_w, i32_w]; rw [c10b0]) | skip)
        have H' := Aside0.mk H
        clear H
        go_wp2
        go_meet
        case rel => exact ⟨_, (0), (by first | rfl | (simp; done) | (simp [*]; done)), H', ⟨by first | omega | exact Nat.le_refl _⟩, ⟨by repeat (first | (with_reducible first | exact HB.out | apply below_alloc | apply pw_below_drewN | apply below_drew1) | exact HB.out)⟩⟩
    case rest =>
      clear HC8
      try clear c1
      try clear p2
      try clear c3
      try clear c3b0
      try clear c3b1
      try clear c4
      try clear c7
      try clear c10
      try clear c10b0
      try clear c10b1
      obtain ⟨kq, x11_7, rfl, HA, HJ7, HB⟩ := hcut
      cases kq with
      | zero => exact absurd HA.out (by simp [flashlocklaw13_PortsTells.j0])
      | succ kj7 =>
        have H := HA.out
        clear HA
        simp only [flashlocklaw13_PortsTells.j0] at H
        by_cases c11 : a0 = 17
        · rw [if_pos c11] at H
          have c11b0 : (a0 == 17) = true := beq_iff_eq.mpr c11
          have c11b1 : (a0 != 17) = false := bne_eq_false_iff_eq.mpr c11
          clear c11
          by_cases c12 : t113 = t116
          · rw [if_pos c12] at H
            have c12b0 : (t113 == t116) = true := beq_iff_eq.mpr c12
            have c12b1 : (t113 != t116) = false := bne_eq_false_iff_eq.mpr c12
            clear c12
            by_cases c13 : t114 = t117
            · rw [if_pos c13] at H
              have c13b0 : (t114 == t117) = true := beq_iff_eq.mpr c13
              have c13b1 : (t114 != t117) = false := bne_eq_false_iff_eq.mpr c13
              clear c13
              by_cases c14 : t115 = t118
              · rw [if_pos c14] at H
                have c14b0 : (t115 == t118) = true := beq_iff_eq.mpr c14
                have c14b1 : (t115 != t118) = false := bne_eq_false_iff_eq.mpr c14
                clear c14
                replace H := Option.bind_eq_some_iff.mp H
                obtain ⟨t119, A150, H⟩ := H
                replace H : (if t119 = 8 then ((ports_Has.f a0).bind fun t120 => (if (t120 == (decide (8 > 0))) = true then ((flashlocklaw13_lives.f).bind fun t121 => (some t121)) else (some false))) else (some false)) = some r := H
                have A15 := Aside0.mk A150
                clear A150
                by_cases c16 : t119 = 8
                · rw [if_pos c16] at H
                  have c16b0 : (t119 == 8) = true := beq_iff_eq.mpr c16
                  have c16b1 : (t119 != 8) = false := bne_eq_false_iff_eq.mpr c16
                  clear c16
                  replace H := Option.bind_eq_some_iff.mp H
                  obtain ⟨t120, A170, H⟩ := H
                  replace H : (if (t120 == (decide (8 > 0))) = true then ((flashlocklaw13_lives.f).bind fun t121 => (some t121)) else (some false)) = some r := H
                  have A17 := Aside0.mk A170
                  clear A170
                  by_cases c18 : (t120 == (decide (8 > 0))) = true
                  · rw [if_pos c18] at H
                    have c18b0 : (t120 == (decide (8 > 0))) = true := c18
                    (try (have c18b1 : decide (t120 = (decide (8 > 0))) = true := by simpa using c18))
                    (try (have c18b2 : (t120 == (decide (8 > 0))) = true := by simpa using c18))
                    (try (have c18b4 : t120 = true := by simpa using c18))
                    clear c18
                    replace H := Option.bind_eq_some_iff.mp H
                    obtain ⟨t121, A190, H⟩ := H
                    replace H : (some t121) = some r := H
                    have A19 := Aside0.mk A190
                    clear A190
                    obtain rfl := Option.some.inj H
                    go_wp2_with (first | (go_at_call 44; (with_reducible refine (ports_Least.calls a0 t119 _ A15.out).mono ?_); rintro e w' ⟨rfl, ⟨nd, rfl⟩⟩) | (go_at_call 45; (with_reducible refine (ports_Has.calls a0 t120 _ A17.out).mono ?_); rintro e w' ⟨rfl, ⟨nd, rfl⟩⟩) | (go_at_call 41; (with_reducible refine (flashlocklaw13_lives.calls  t121 _ A19.out).mono ?_); rintro e w20 ⟨rfl, hb⟩; have n0_ := Aside0.mk (below_step (by repeat (first | (with_reducible first | exact HB.out | apply below_alloc | apply pw_below_drewN | apply below_drew1) | exact HB.out)) hb); clear HB; have HB := n0_; clear n0_; (try clear hb); (try clear hb2); (try clear hk); (try clear hi)))
                    go_ret
                    exact ⟨by first | rfl | (simp [errW_none, errW_some] <;> rfl) | (simp [*, errW_none, errW_some] <;> rfl), by repeat (first | (with_reducible first | exact HB.out | apply below_alloc | apply pw_below_drewN | apply below_drew1) | exact HB.out)⟩
                  · rw [if_neg c18] at H
                    have c18b0 : (t120 == (decide (8 > 0))) = false := by simpa using c18
                    (try (have c18b1 : decide (t120 = (decide (8 > 0))) = false := by simpa using c18))
                    (try (have c18b2 : (t120 == (decide (8 > 0))) = false := by simpa using c18))
                    (try (have c18b3 : ¬ (t120 = (decide (8 > 0))) := by simpa using c18))
                    (try (have c18b4 : t120 = false := by simpa using c18))
                    clear c18
                    obtain rfl := Option.some.inj H
                    go_wp2_with (first | (go_at_call 44; (with_reducible refine (ports_Least.calls a0 t119 _ A15.out).mono ?_); rintro e w' ⟨rfl, ⟨nd, rfl⟩⟩) | (go_at_call 45; (with_reducible refine (ports_Has.calls a0 t120 _ A17.out).mono ?_); rintro e w' ⟨rfl, ⟨nd, rfl⟩⟩))
                    go_ret
                    exact ⟨by first | rfl | (simp [errW_none, errW_some] <;> rfl) | (simp [*, errW_none, errW_some] <;> rfl), by repeat (first | (with_reducible first | exact HB.out | apply below_alloc | apply pw_below_drewN | apply below_drew1) | exact HB.out)⟩
                · rw [if_neg c16] at H
                  have c16b0 : (t119 == 8) = false := beq_eq_false_iff_ne.mpr c16
                  have c16b1 : (t119 != 8) = true := bne_iff_ne.mpr c16
                  obtain rfl := Option.some.inj H
                  go_wp2_with (first | (go_at_call 44; (with_reducible refine (ports_Least.calls a0 t119 _ A15.out).mono ?_); rintro e w' ⟨rfl, ⟨nd, rfl⟩⟩))
                  go_ret
                  exact ⟨by first | rfl | (simp [errW_none, errW_some] <;> rfl) | (simp [*, errW_none, errW_some] <;> rfl), by repeat (first | (with_reducible first | exact HB.out | apply below_alloc | apply pw_below_drewN | apply below_drew1) | exact HB.out)⟩
              · rw [if_neg c14] at H
                have c14b0 : (t115 == t118) = false := beq_eq_false_iff_ne.mpr c14
                have c14b1 : (t115 != t118) = true := bne_iff_ne.mpr c14
                obtain rfl := Option.some.inj H
                go_wp2
                go_ret
                exact ⟨by first | rfl | (simp [errW_none, errW_some] <;> rfl) | (simp [*, errW_none, errW_some] <;> rfl), by repeat (first | (with_reducible first | exact HB.out | apply below_alloc | apply pw_below_drewN | apply below_drew1) | exact HB.out)⟩
            · rw [if_neg c13] at H
              have c13b0 : (t114 == t117) = false := beq_eq_false_iff_ne.mpr c13
              have c13b1 : (t114 != t117) = true := bne_iff_ne.mpr c13
              obtain rfl := Option.some.inj H
              go_wp2
              go_ret
              exact ⟨by first | rfl | (simp [errW_none, errW_some] <;> rfl) | (simp [*, errW_none, errW_some] <;> rfl), by repeat (first | (with_reducible first | exact HB.out | apply below_alloc | apply pw_below_drewN | apply below_drew1) | exact HB.out)⟩
          · rw [if_neg c12] at H
            have c12b0 : (t113 == t116) = false := beq_eq_false_iff_ne.mpr c12
            have c12b1 : (t113 != t116) = true := bne_iff_ne.mpr c12
            obtain rfl := Option.some.inj H
            go_wp2
            go_ret
            exact ⟨by first | rfl | (simp [errW_none, errW_some] <;> rfl) | (simp [*, errW_none, errW_some] <;> rfl), by repeat (first | (with_reducible first | exact HB.out | apply below_alloc | apply pw_below_drewN | apply below_drew1) | exact HB.out)⟩
        · rw [if_neg c11] at H
          have c11b0 : (a0 == 17) = false := beq_eq_false_iff_ne.mpr c11
          have c11b1 : (a0 != 17) = true := bne_iff_ne.mpr c11
          by_cases c21 : t113 = t116
          · rw [if_pos c21] at H
            have c21b0 : (t113 == t116) = true := beq_iff_eq.mpr c21
            have c21b1 : (t113 != t116) = false := bne_eq_false_iff_eq.mpr c21
            clear c21
            by_cases c22 : t114 = t117
            · rw [if_pos c22] at H
              have c22b0 : (t114 == t117) = true := beq_iff_eq.mpr c22
              have c22b1 : (t114 != t117) = false := bne_eq_false_iff_eq.mpr c22
              clear c22
              by_cases c23 : t115 = t118
              · rw [if_pos c23] at H
                have c23b0 : (t115 == t118) = true := beq_iff_eq.mpr c23
                have c23b1 : (t115 != t118) = false := bne_eq_false_iff_eq.mpr c23
                clear c23
                replace H := Option.bind_eq_some_iff.mp H
                obtain ⟨t122, A240, H⟩ := H
                replace H : (if t122 = x11_7 then ((ports_Has.f a0).bind fun t123 => (if (t123 == (decide (x11_7 > 0))) = true then ((flashlocklaw13_lives.f).bind fun t124 => (some t124)) else (some false))) else (some false)) = some r := H
                have A24 := Aside0.mk A240
                clear A240
                by_cases c25 : t122 = x11_7
                · rw [if_pos c25] at H
                  have c25b0 : (t122 == x11_7) = true := beq_iff_eq.mpr c25
                  have c25b1 : (t122 != x11_7) = false := bne_eq_false_iff_eq.mpr c25
                  clear c25
                  replace H := Option.bind_eq_some_iff.mp H
                  obtain ⟨t123, A260, H⟩ := H
                  replace H : (if (t123 == (decide (x11_7 > 0))) = true then ((flashlocklaw13_lives.f).bind fun t124 => (some t124)) else (some false)) = some r := H
                  have A26 := Aside0.mk A260
                  clear A260
                  by_cases c27 : (t123 == (decide (x11_7 > 0))) = true
                  · rw [if_pos c27] at H
                    have c27b0 : (t123 == (decide (x11_7 > 0))) = true := c27
                    (try (have c27b1 : decide (t123 = (decide (x11_7 > 0))) = true := by simpa using c27))
                    (try (have c27b2 : (t123 == (decide (x11_7 > 0))) = true := by simpa using c27))
                    clear c27
                    replace H := Option.bind_eq_some_iff.mp H
                    obtain ⟨t124, A280, H⟩ := H
                    replace H : (some t124) = some r := H
                    have A28 := Aside0.mk A280
                    clear A280
                    obtain rfl := Option.some.inj H
                    go_wp2_with (first | (go_at_call 44; (with_reducible refine (ports_Least.calls a0 t122 _ A24.out).mono ?_); rintro e w' ⟨rfl, ⟨nd, rfl⟩⟩) | (go_at_call 45; (with_reducible refine (ports_Has.calls a0 t123 _ A26.out).mono ?_); rintro e w' ⟨rfl, ⟨nd, rfl⟩⟩) | (go_at_call 41; (with_reducible refine (flashlocklaw13_lives.calls  t124 _ A28.out).mono ?_); rintro e w29 ⟨rfl, hb⟩; have n0_ := Aside0.mk (below_step (by repeat (first | (with_reducible first | exact HB.out | apply below_alloc | apply pw_below_drewN | apply below_drew1) | exact HB.out)) hb); clear HB; have HB := n0_; clear n0_; (try clear hb); (try clear hb2); (try clear hk); (try clear hi)))
                    go_ret
                    exact ⟨by first | rfl | (simp [errW_none, errW_some] <;> rfl) | (simp [*, errW_none, errW_some] <;> rfl), by repeat (first | (with_reducible first | exact HB.out | apply below_alloc | apply pw_below_drewN | apply below_drew1) | exact HB.out)⟩
                  · rw [if_neg c27] at H
                    have c27b0 : (t123 == (decide (x11_7 > 0))) = false := by simpa using c27
                    (try (have c27b1 : decide (t123 = (decide (x11_7 > 0))) = false := by simpa using c27))
                    (try (have c27b2 : (t123 == (decide (x11_7 > 0))) = false := by simpa using c27))
                    (try (have c27b3 : ¬ (t123 = (decide (x11_7 > 0))) := by simpa using c27))
                    clear c27
                    obtain rfl := Option.some.inj H
                    go_wp2_with (first | (go_at_call 44; (with_reducible refine (ports_Least.calls a0 t122 _ A24.out).mono ?_); rintro e w' ⟨rfl, ⟨nd, rfl⟩⟩) | (go_at_call 45; (with_reducible refine (ports_Has.calls a0 t123 _ A26.out).mono ?_); rintro e w' ⟨rfl, ⟨nd, rfl⟩⟩))
                    go_ret
                    exact ⟨by first | rfl | (simp [errW_none, errW_some] <;> rfl) | (simp [*, errW_none, errW_some] <;> rfl), by repeat (first | (with_reducible first | exact HB.out | apply below_alloc | apply pw_below_drewN | apply below_drew1) | exact HB.out)⟩
                · rw [if_neg c25] at H
                  have c25b0 : (t122 == x11_7) = false := beq_eq_false_iff_ne.mpr c25
                  have c25b1 : (t122 != x11_7) = true := bne_iff_ne.mpr c25
                  obtain rfl := Option.some.inj H
                  go_wp2_with (first | (go_at_call 44; (with_reducible refine (ports_Least.calls a0 t122 _ A24.out).mono ?_); rintro e w' ⟨rfl, ⟨nd, rfl⟩⟩))
                  go_ret
                  exact ⟨by first | rfl | (simp [errW_none, errW_some] <;> rfl) | (simp [*, errW_none, errW_some] <;> rfl), by repeat (first | (with_reducible first | exact HB.out | apply below_alloc | apply pw_below_drewN | apply below_drew1) | exact HB.out)⟩
              · rw [if_neg c23] at H
                have c23b0 : (t115 == t118) = false := beq_eq_false_iff_ne.mpr c23
                have c23b1 : (t115 != t118) = true := bne_iff_ne.mpr c23
                obtain rfl := Option.some.inj H
                go_wp2
                go_ret
                exact ⟨by first | rfl | (simp [errW_none, errW_some] <;> rfl) | (simp [*, errW_none, errW_some] <;> rfl), by repeat (first | (with_reducible first | exact HB.out | apply below_alloc | apply pw_below_drewN | apply below_drew1) | exact HB.out)⟩
            · rw [if_neg c22] at H
              have c22b0 : (t114 == t117) = false := beq_eq_false_iff_ne.mpr c22
              have c22b1 : (t114 != t117) = true := bne_iff_ne.mpr c22
              obtain rfl := Option.some.inj H
              go_wp2
              go_ret
              exact ⟨by first | rfl | (simp [errW_none, errW_some] <;> rfl) | (simp [*, errW_none, errW_some] <;> rfl), by repeat (first | (with_reducible first | exact HB.out | apply below_alloc | apply pw_below_drewN | apply below_drew1) | exact HB.out)⟩
          · rw [if_neg c21] at H
            have c21b0 : (t113 == t116) = false := beq_eq_false_iff_ne.mpr c21
            have c21b1 : (t113 != t116) = true := bne_iff_ne.mpr c21
            obtain rfl := Option.some.inj H
            go_wp2
            go_ret
            exact ⟨by first | rfl | (simp [errW_none, errW_some] <;> rfl) | (simp [*, errW_none, errW_some] <;> rfl), by repeat (first | (with_reducible first | exact HB.out | apply below_alloc | apply pw_below_drewN | apply below_drew1) | exact HB.out)⟩

/-- THE ONE PURE STATEMENT of flashlocklaw13_PortsTells: yours. -/
def flashlocklaw13_PortsTells.Pure : Prop := ∀ (a0 : Int) (a1 : ByteArray), (Lit.int .i64 a0).wf = true → a1.size ≤ 140737488351232 → ∃ k, flashlocklaw13_PortsTells.f k a0 a1 = some true
theorem flashlocklaw13_PortsTells.walk (P : flashlocklaw13_PortsTells.Pure) (a0 : Int) (a1 : ByteArray) (w : World) (w0 : (Lit.int .i64 a0).wf = true) (w1 : a1.size ≤ 140737488351232) :
    Calls Try.prog 7 #[.int .i64 a0, .string a1] w fun e w' => e = .returned (.bool true) ∧ Below w.heap.size w w' := by
  obtain ⟨k, h⟩ := P a0 a1 w0 w1
  refine (flashlocklaw13_PortsTells.calls k a0 a1 true w h).mono ?_
  rintro e w' ⟨rfl, hd⟩
  exact ⟨rfl, hd⟩

end Go.Proofs.Ytlnnghbbjbimoaa.PQ
