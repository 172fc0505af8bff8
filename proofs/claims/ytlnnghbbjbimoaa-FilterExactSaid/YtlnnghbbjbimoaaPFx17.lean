-- written by wip/tools/pr.py over the kit's print.py, out of the translation; Lean checks it
import Derived.Test.YtlnnghbbjbimoaaPFx0
import Derived.Test.YtlnnghbbjbimoaaPFx9
import Derived.Test.YtlnnghbbjbimoaaPFx16
namespace Go.Proofs.Ytlnnghbbjbimoaa.PF
open Go.RowKit Go.Proofs.YtlnnghbbjbimoaaW.PrintWords Go.Proofs.YtlnnghbbjbimoaaW.PrintLast Go.Proofs.YtlnnghbbjbimoaaW.PrintMore
attribute [local go_sem] max2_int min2_int max_two min_two max_three min_three max_four min_four   -- for this text's walks alone
set_option linter.unusedVariables false
set_option linter.unusedSimpArgs false

/-! ### flashlockref14_Right: function 31 -/
mutual
def flashlockref14_Right.j0 : Nat → Bool → Int → Int → Int → Int → Int → Int → Int → Int → Option (Bool)
  | 0, _, _, _, _, _, _, _, _, _ => none
  | k + 1, x26, x213000, x213001, x213002, x213003, x213004, x213005, x213006, x213007 => if x26 = true then (some false) else (if x213005 < 0 then (flashlockref14_Right.j1 k true x213000 x213001 x213002 x213003 x213004 x213005 x213006 x213007) else (if x213005 > 255 then (flashlockref14_Right.j1 k true x213000 x213001 x213002 x213003 x213004 x213005 x213006 x213007) else (if x213000 = 6 then ((flashlockref12_Follows.f x213005).bind fun t217 => (flashlockref14_Right.j1 k t217 x213000 x213001 x213002 x213003 x213004 x213005 x213006 x213007)) else (flashlockref14_Right.j1 k false x213000 x213001 x213002 x213003 x213004 x213005 x213006 x213007))))
def flashlockref14_Right.j1 : Nat → Bool → Int → Int → Int → Int → Int → Int → Int → Int → Option (Bool)
  | 0, _, _, _, _, _, _, _, _, _ => none
  | k + 1, x44, x213000, x213001, x213002, x213003, x213004, x213005, x213006, x213007 => if x44 = true then (some false) else (if x213005 = 6 then (if x213006 ≥ 0 then (if x213006 ≤ 65535 then (if x213007 ≥ 0 then (some (decide (x213007 ≤ 65535))) else (some false)) else (some false)) else (some false)) else (if x213005 = 17 then (if x213006 ≥ 0 then (if x213006 ≤ 65535 then (if x213007 ≥ 0 then (some (decide (x213007 ≤ 65535))) else (some false)) else (some false)) else (some false)) else (if x213006 = 0 then (some (x213007 == 0)) else (some false))))
end
def flashlockref14_Right.f (k : Nat) (a0_0 : Int) (a0_1 : Int) (a0_2 : Int) (a0_3 : Int) (a0_4 : Int) (a0_5 : Int) (a0_6 : Int) (a0_7 : Int) : Option (Bool) := if a0_0 = 4 then ((flashlockref10_Right.f a0_0 a0_1 a0_2).bind fun t213 => (if t213 = true then ((flashlockref10_Right.f a0_0 a0_3 a0_4).bind fun t214 => (flashlockref14_Right.j0 k (!t214) a0_0 a0_1 a0_2 a0_3 a0_4 a0_5 a0_6 a0_7)) else (flashlockref14_Right.j0 k true a0_0 a0_1 a0_2 a0_3 a0_4 a0_5 a0_6 a0_7))) else (if a0_0 = 6 then ((flashlockref10_Right.f a0_0 a0_1 a0_2).bind fun t215 => (if t215 = true then ((flashlockref10_Right.f a0_0 a0_3 a0_4).bind fun t216 => (flashlockref14_Right.j0 k (!t216) a0_0 a0_1 a0_2 a0_3 a0_4 a0_5 a0_6 a0_7)) else (flashlockref14_Right.j0 k true a0_0 a0_1 a0_2 a0_3 a0_4 a0_5 a0_6 a0_7))) else (flashlockref14_Right.j0 k true a0_0 a0_1 a0_2 a0_3 a0_4 a0_5 a0_6 a0_7))
theorem flashlockref14_Right.mono_l : ∀ k, (∀ y0 y1 y2 y3 y4 y5 y6 y7 y8, LeO (flashlockref14_Right.j0 k y0 y1 y2 y3 y4 y5 y6 y7 y8) (flashlockref14_Right.j0 (k + 1) y0 y1 y2 y3 y4 y5 y6 y7 y8)) ∧ (∀ y0 y1 y2 y3 y4 y5 y6 y7 y8, LeO (flashlockref14_Right.j1 k y0 y1 y2 y3 y4 y5 y6 y7 y8) (flashlockref14_Right.j1 (k + 1) y0 y1 y2 y3 y4 y5 y6 y7 y8))
  | 0 => ⟨fun _ _ _ _ _ _ _ _ _ r h => by simp [flashlockref14_Right.j0] at h, fun _ _ _ _ _ _ _ _ _ r h => by simp [flashlockref14_Right.j1] at h⟩
  | k + 1 => by
    obtain ⟨ih0, ih1⟩ := flashlockref14_Right.mono_l k
    refine ⟨?_, ?_⟩
    · intro y0 y1 y2 y3 y4 y5 y6 y7 y8
      unfold flashlockref14_Right.j0
      repeat' first
      | (with_reducible exact ih0 _ _ _ _ _ _ _ _ _)
      | (with_reducible exact ih1 _ _ _ _ _ _ _ _ _)
      | (with_reducible exact LeO.refl _)
      | (with_reducible exact LeO.none _)
      | (with_reducible refine LeO.ite ?_ ?_)
      | (with_reducible refine LeO.bind ?_ (fun _ => ?_))
      | exact ih0 _ _ _ _ _ _ _ _ _
      | exact ih1 _ _ _ _ _ _ _ _ _
      | exact LeO.none _
      | refine LeO.ite ?_ ?_
      | refine LeO.bind ?_ (fun _ => ?_)
    · intro y0 y1 y2 y3 y4 y5 y6 y7 y8
      unfold flashlockref14_Right.j1
      repeat' first
      | (with_reducible exact ih0 _ _ _ _ _ _ _ _ _)
      | (with_reducible exact ih1 _ _ _ _ _ _ _ _ _)
      | (with_reducible exact LeO.refl _)
      | (with_reducible exact LeO.none _)
      | (with_reducible refine LeO.ite ?_ ?_)
      | (with_reducible refine LeO.bind ?_ (fun _ => ?_))
      | exact ih0 _ _ _ _ _ _ _ _ _
      | exact ih1 _ _ _ _ _ _ _ _ _
      | exact LeO.none _
      | refine LeO.ite ?_ ?_
      | refine LeO.bind ?_ (fun _ => ?_)
theorem flashlockref14_Right.mono : ∀ a0 a1 a2 a3 a4 a5 a6 a7 k, LeO (flashlockref14_Right.f k a0 a1 a2 a3 a4 a5 a6 a7) (flashlockref14_Right.f (k + 1) a0 a1 a2 a3 a4 a5 a6 a7) := by
  intro a0 a1 a2 a3 a4 a5 a6 a7 k
  obtain ⟨ih0, ih1⟩ := flashlockref14_Right.mono_l k
  unfold flashlockref14_Right.f
  repeat' first
      | (with_reducible exact ih0 _ _ _ _ _ _ _ _ _)
      | (with_reducible exact ih1 _ _ _ _ _ _ _ _ _)
      | (with_reducible exact LeO.refl _)
      | (with_reducible exact LeO.none _)
      | (with_reducible refine LeO.ite ?_ ?_)
      | (with_reducible refine LeO.bind ?_ (fun _ => ?_))
      | exact ih0 _ _ _ _ _ _ _ _ _
      | exact ih1 _ _ _ _ _ _ _ _ _
      | exact LeO.none _
      | refine LeO.ite ?_ ?_
      | refine LeO.bind ?_ (fun _ => ?_)
set_option maxHeartbeats 8000000 in
set_option maxRecDepth 100000 in
theorem flashlockref14_Right.calls (k : Nat) (a0_0 : Int) (a0_1 : Int) (a0_2 : Int) (a0_3 : Int) (a0_4 : Int) (a0_5 : Int) (a0_6 : Int) (a0_7 : Int) (r : Bool) (w : World) (h : flashlockref14_Right.f k a0_0 a0_1 a0_2 a0_3 a0_4 a0_5 a0_6 a0_7 = some r) :
    Calls Try.prog 31 #[.agg #[.int .i64 a0_0, .int .u64 a0_1, .int .u64 a0_2, .int .u64 a0_3, .int .u64 a0_4, .int .i64 a0_5, .int .i64 a0_6, .int .i64 a0_7]] w fun e w' => e = .returned (.bool r) ∧ Below w.heap.size w w' := by
  have hu39 := Try.underlying39
  have hu37 := Try.underlying37
  have HB := Aside0.mk (Below.refl w.heap.size w)
  have H : (if a0_0 = 4 then ((flashlockref10_Right.f a0_0 a0_1 a0_2).bind fun t213 => (if t213 = true then ((flashlockref10_Right.f a0_0 a0_3 a0_4).bind fun t214 => (flashlockref14_Right.j0 k (!t214) a0_0 a0_1 a0_2 a0_3 a0_4 a0_5 a0_6 a0_7)) else (flashlockref14_Right.j0 k true a0_0 a0_1 a0_2 a0_3 a0_4 a0_5 a0_6 a0_7))) else (if a0_0 = 6 then ((flashlockref10_Right.f a0_0 a0_1 a0_2).bind fun t215 => (if t215 = true then ((flashlockref10_Right.f a0_0 a0_3 a0_4).bind fun t216 => (flashlockref14_Right.j0 k (!t216) a0_0 a0_1 a0_2 a0_3 a0_4 a0_5 a0_6 a0_7)) else (flashlockref14_Right.j0 k true a0_0 a0_1 a0_2 a0_3 a0_4 a0_5 a0_6 a0_7))) else (flashlockref14_Right.j0 k true a0_0 a0_1 a0_2 a0_3 a0_4 a0_5 a0_6 a0_7))) = some r := h
  clear h
  have HC2 := Aside0.mk H
  clear H
  go_enter Try.func31, Try.ntmps31
  go_upto_region 1 with (first | ((with_reducible refine gate_dst (N := 1) rfl ?_); refine box_event ?hg (N := 1) ?hd (cs := #[.int .i64 a0_0, .int .u64 a0_1, .int .u64 a0_2, .int .u64 a0_3, .int .u64 a0_4, .int .i64 a0_5, .int .i64 a0_6, .int .i64 a0_7]) (t := 39) ?hr ?_; (case hd => rfl); (case hg => rfl); (case hr => first | (go_simp; done) | (go_simp; rfl)); intro gb212 hg w3 hbox hb; have n0_ := Aside0.mk (below_step (by repeat (first | (with_reducible first | exact HB.out | apply below_alloc | apply pw_below_drewN | apply below_drew1) | exact HB.out)) hb); have n1_ := Aside0.mk (hbox); have n2_ := Aside0.mk ((by rw [hg]; exact (below_size (by repeat (first | (with_reducible first | exact HB.out | apply below_alloc | apply pw_below_drewN | apply below_drew1) | exact HB.out))) : w.heap.size ≤ gb212)); have n3_ := Aside0.mk ((by rw [hg]; exact (below_size (by repeat (first | (with_reducible first | exact HB.out | apply below_alloc | apply pw_below_drewN | apply below_drew1) | exact HB.out))) : w.heap.size ≤ gb212)); clear HB; have HB := n0_; have BK212 := n1_; have GW212 := n2_; have GE212 := n3_; clear n0_ n1_ n2_ n3_; clear hb hbox hg))
  (try simp only [Act.put, List.setIfInBounds_toArray, List.set_cons_zero, List.set_cons_succ])
  go_cut [26] (fun v26 wc => ∃ (kq : Nat) (x26_1 : Bool), v26 = .bool x26_1 ∧ Aside0 (flashlockref14_Right.j0 kq x26_1 a0_0 a0_1 a0_2 a0_3 a0_4 a0_5 a0_6 a0_7 = some r) ∧ Aside0 (kq ≤ k) ∧ Aside0 (wc.heap[gb212]? = some (.cells #[.int .i64 a0_0, .int .u64 a0_1, .int .u64 a0_2, .int .u64 a0_3, .int .u64 a0_4, .int .i64 a0_5, .int .i64 a0_6, .int .i64 a0_7] 39 (0, 0))) ∧ Aside0 (Below w.heap.size w wc))
  case first =>
    have H := HC2.out
    clear HC2
    by_cases c4 : a0_0 = 4
    · rw [if_pos c4] at H
      have c4b0 : (a0_0 == 4) = true := beq_iff_eq.mpr c4
      have c4b1 : (a0_0 != 4) = false := bne_eq_false_iff_eq.mpr c4
      clear c4
      (first | rw [c4b0] | (simp only [i64_w, i32_w]; rw [c4b0]) | skip)
      replace H := Option.bind_eq_some_iff.mp H
      obtain ⟨t213, A50, H⟩ := H
      replace H : (if t213 = true then ((flashlockref10_Right.f a0_0 a0_3 a0_4).bind fun t214 => (flashlockref14_Right.j0 k (!t214) a0_0 a0_1 a0_2 a0_3 a0_4 a0_5 a0_6 a0_7)) else (flashlockref14_Right.j0 k true a0_0 a0_1 a0_2 a0_3 a0_4 a0_5 a0_6 a0_7)) = some r := H
      have A5 := Aside0.mk A50
      clear A50
      by_cases c6 : t213 = true
      · subst c6
        have H1 : ((flashlockref10_Right.f a0_0 a0_3 a0_4).bind fun t214 => (flashlockref14_Right.j0 k (!t214) a0_0 a0_1 a0_2 a0_3 a0_4 a0_5 a0_6 a0_7)) = some r := by rw [if_pos rfl] at H; exact H
        clear H
        have H := H1
        clear H1
        replace H := Option.bind_eq_some_iff.mp H
        obtain ⟨t214, A70, H⟩ := H
        replace H : (flashlockref14_Right.j0 k (!t214) a0_0 a0_1 a0_2 a0_3 a0_4 a0_5 a0_6 a0_7) = some r := H
        have A7 := Aside0.mk A70
        clear A70
        have H' := Aside0.mk H
        clear H
        have hcz8_0 : w3.cell? ⟨gb212, 0, none⟩ = some (.int .i64 a0_0) := (blk_cell BK212.out 0).trans rfl
        have hcz8_1 : w3.cell? ⟨gb212, 1, none⟩ = some (.int .u64 a0_1) := (blk_cell BK212.out 1).trans rfl
        have hcz8_2 : w3.cell? ⟨gb212, 2, none⟩ = some (.int .u64 a0_2) := (blk_cell BK212.out 2).trans rfl
        have hcz8_3 : w3.cell? ⟨gb212, 3, none⟩ = some (.int .u64 a0_3) := (blk_cell BK212.out 3).trans rfl
        have hcz8_4 : w3.cell? ⟨gb212, 4, none⟩ = some (.int .u64 a0_4) := (blk_cell BK212.out 4).trans rfl
        have hcz8_5 : w3.cell? ⟨gb212, 5, none⟩ = some (.int .i64 a0_5) := (blk_cell BK212.out 5).trans rfl
        have hcz8_6 : w3.cell? ⟨gb212, 6, none⟩ = some (.int .i64 a0_6) := (blk_cell BK212.out 6).trans rfl
        have hcz8_7 : w3.cell? ⟨gb212, 7, none⟩ = some (.int .i64 a0_7) := (blk_cell BK212.out 7).trans rfl
        have hfz8_0 := blk_frozen BK212.out 0
        have hfz8_1 := blk_frozen BK212.out 1
        have hfz8_2 := blk_frozen BK212.out 2
        have hfz8_3 := blk_frozen BK212.out 3
        have hfz8_4 := blk_frozen BK212.out 4
        have hfz8_5 := blk_frozen BK212.out 5
        have hfz8_6 := blk_frozen BK212.out 6
        have hfz8_7 := blk_frozen BK212.out 7
        go_wp2_with (first | (go_at_call 75; (with_reducible refine (flashlockref10_Right.calls a0_0 a0_1 a0_2 true _ A5.out).mono ?_); rintro e w9 ⟨rfl, hb⟩; have n0_ := Aside0.mk (blk_below (g := gb212) (o := .cells #[.int .i64 a0_0, .int .u64 a0_1, .int .u64 a0_2, .int .u64 a0_3, .int .u64 a0_4, .int .i64 a0_5, .int .i64 a0_6, .int .i64 a0_7] 39 (0, 0)) (by (with_reducible repeat (first | refine blk_drewN ?_ _ | refine blk_drew ?_ | refine blk_alloc ?_ _)); exact BK212.out) hb); have n1_ := Aside0.mk (below_step (by repeat (first | (with_reducible first | exact HB.out | apply below_alloc | apply pw_below_drewN | apply below_drew1 | refine below_set ?_ GE212.out) | exact HB.out)) hb); clear BK212; clear HB; have BK212 := n0_; have HB := n1_; clear n0_ n1_; (try clear hb); (try clear hb2); (try clear hk); (try clear hi); have hcz10_0 : w9.cell? ⟨gb212, 0, none⟩ = some (.int .i64 a0_0) := (blk_cell BK212.out 0).trans rfl; have hcz10_1 : w9.cell? ⟨gb212, 1, none⟩ = some (.int .u64 a0_1) := (blk_cell BK212.out 1).trans rfl; have hcz10_2 : w9.cell? ⟨gb212, 2, none⟩ = some (.int .u64 a0_2) := (blk_cell BK212.out 2).trans rfl; have hcz10_3 : w9.cell? ⟨gb212, 3, none⟩ = some (.int .u64 a0_3) := (blk_cell BK212.out 3).trans rfl; have hcz10_4 : w9.cell? ⟨gb212, 4, none⟩ = some (.int .u64 a0_4) := (blk_cell BK212.out 4).trans rfl; have hcz10_5 : w9.cell? ⟨gb212, 5, none⟩ = some (.int .i64 a0_5) := (blk_cell BK212.out 5).trans rfl; have hcz10_6 : w9.cell? ⟨gb212, 6, none⟩ = some (.int .i64 a0_6) := (blk_cell BK212.out 6).trans rfl; have hcz10_7 : w9.cell? ⟨gb212, 7, none⟩ = some (.int .i64 a0_7) := (blk_cell BK212.out 7).trans rfl; have hfz10_0 := blk_frozen BK212.out 0; have hfz10_1 := blk_frozen BK212.out 1; have hfz10_2 := blk_frozen BK212.out 2; have hfz10_3 := blk_frozen BK212.out 3; have hfz10_4 := blk_frozen BK212.out 4; have hfz10_5 := blk_frozen BK212.out 5; have hfz10_6 := blk_frozen BK212.out 6; have hfz10_7 := blk_frozen BK212.out 7) | (go_at_call 75; (with_reducible refine (flashlockref10_Right.calls a0_0 a0_3 a0_4 t214 _ A7.out).mono ?_); rintro e w11 ⟨rfl, hb⟩; have n0_ := Aside0.mk (blk_below (g := gb212) (o := .cells #[.int .i64 a0_0, .int .u64 a0_1, .int .u64 a0_2, .int .u64 a0_3, .int .u64 a0_4, .int .i64 a0_5, .int .i64 a0_6, .int .i64 a0_7] 39 (0, 0)) (by (with_reducible repeat (first | refine blk_drewN ?_ _ | refine blk_drew ?_ | refine blk_alloc ?_ _)); exact BK212.out) hb); have n1_ := Aside0.mk (below_step (by repeat (first | (with_reducible first | exact HB.out | apply below_alloc | apply pw_below_drewN | apply below_drew1 | refine below_set ?_ GE212.out) | exact HB.out)) hb); clear BK212; clear HB; have BK212 := n0_; have HB := n1_; clear n0_ n1_; (try clear hb); (try clear hb2); (try clear hk); (try clear hi)))
        go_meet
        case rel => exact ⟨_, (!t214), (by first | rfl | (simp; done) | (simp [*]; done)), H', ⟨by first | omega | exact Nat.le_refl _⟩, ⟨by (with_reducible repeat (first | refine blk_drewN ?_ _ | refine blk_drew ?_ | refine blk_alloc ?_ _)); exact BK212.out⟩, ⟨by repeat (first | (with_reducible first | exact HB.out | apply below_alloc | apply pw_below_drewN | apply below_drew1 | refine below_set ?_ GE212.out) | exact HB.out)⟩⟩
      · replace c6 := Bool.eq_false_iff.mpr c6
        subst c6
        have H1 : (flashlockref14_Right.j0 k true a0_0 a0_1 a0_2 a0_3 a0_4 a0_5 a0_6 a0_7) = some r := by rw [if_neg (show ¬ (false = true) by decide)] at H; exact H
        clear H
        have H := H1
        clear H1
        have H' := Aside0.mk H
        clear H
        have hcz12_0 : w3.cell? ⟨gb212, 0, none⟩ = some (.int .i64 a0_0) := (blk_cell BK212.out 0).trans rfl
        have hcz12_1 : w3.cell? ⟨gb212, 1, none⟩ = some (.int .u64 a0_1) := (blk_cell BK212.out 1).trans rfl
        have hcz12_2 : w3.cell? ⟨gb212, 2, none⟩ = some (.int .u64 a0_2) := (blk_cell BK212.out 2).trans rfl
        have hcz12_3 : w3.cell? ⟨gb212, 3, none⟩ = some (.int .u64 a0_3) := (blk_cell BK212.out 3).trans rfl
        have hcz12_4 : w3.cell? ⟨gb212, 4, none⟩ = some (.int .u64 a0_4) := (blk_cell BK212.out 4).trans rfl
        have hcz12_5 : w3.cell? ⟨gb212, 5, none⟩ = some (.int .i64 a0_5) := (blk_cell BK212.out 5).trans rfl
        have hcz12_6 : w3.cell? ⟨gb212, 6, none⟩ = some (.int .i64 a0_6) := (blk_cell BK212.out 6).trans rfl
        have hcz12_7 : w3.cell? ⟨gb212, 7, none⟩ = some (.int .i64 a0_7) := (blk_cell BK212.out 7).trans rfl
        have hfz12_0 := blk_frozen BK212.out 0
        have hfz12_1 := blk_frozen BK212.out 1
        have hfz12_2 := blk_frozen BK212.out 2
        have hfz12_3 := blk_frozen BK212.out 3
        have hfz12_4 := blk_frozen BK212.out 4
        have hfz12_5 := blk_frozen BK212.out 5
        have hfz12_6 := blk_frozen BK212.out 6
        have hfz12_7 := blk_frozen BK212.out 7
        go_wp2_with (first | (go_at_call 75; (with_reducible refine (flashlockref10_Right.calls a0_0 a0_1 a0_2 false _ A5.out).mono ?_); rintro e w13 ⟨rfl, hb⟩; have n0_ := Aside0.mk (blk_below (g := gb212) (o := .cells #[.int .i64 a0_0, .int .u64 a0_1, .int .u64 a0_2, .int .u64 a0_3, .int .u64 a0_4, .int .i64 a0_5, .int .i64 a0_6, .int .i64 a0_7] 39 (0, 0)) (by (with_reducible repeat (first | refine blk_drewN ?_ _ | refine blk_drew ?_ | refine blk_alloc ?_ _)); exact BK212.out) hb); have n1_ := Aside0.mk (below_step (by repeat (first | (with_reducible first | exact HB.out | apply below_alloc | apply pw_below_drewN | apply below_drew1 | refine below_set ?_ GE212.out) | exact HB.out)) hb); clear BK212; clear HB; have BK212 := n0_; have HB := n1_; clear n0_ n1_; (try clear hb); (try clear hb2); (try clear hk); (try clear hi)))
        go_meet
        case rel => exact ⟨_, (true), (by first | rfl | (simp; done) | (simp [*]; done)), H', ⟨by first | omega | exact Nat.le_refl _⟩, ⟨by (with_reducible repeat (first | refine blk_drewN ?_ _ | refine blk_drew ?_ | refine blk_alloc ?_ _)); exact BK212.out⟩, ⟨by repeat (first | (with_reducible first | exact HB.out | apply below_alloc | apply pw_below_drewN | apply below_drew1 | refine below_set ?_ GE212.out) | exact HB.out)⟩⟩
    · rw [if_neg c4] at H
      have c4b0 : (a0_0 == 4) = false := beq_eq_false_iff_ne.mpr c4
      have c4b1 : (a0_0 != 4) = true := bne_iff_ne.mpr c4
      (first | rw [c4b0] | (simp only [i64_w, i32_w]; rw [c4b0]) | skip)
      by_cases c14 : a0_0 = 6
      · rw [if_pos c14] at H
        have c14b0 : (a0_0 == 6) = true := beq_iff_eq.mpr c14
        have c14b1 : (a0_0 != 6) = false := bne_eq_false_iff_eq.mpr c14
        clear c14
        replace H := Option.bind_eq_some_iff.mp H
        obtain ⟨t215, A150, H⟩ := H
        replace H : (if t215 = true then ((flashlockref10_Right.f a0_0 a0_3 a0_4).bind fun t216 => (flashlockref14_Right.j0 k (!t216) a0_0 a0_1 a0_2 a0_3 a0_4 a0_5 a0_6 a0_7)) else (flashlockref14_Right.j0 k true a0_0 a0_1 a0_2 a0_3 a0_4 a0_5 a0_6 a0_7)) = some r := H
        have A15 := Aside0.mk A150
        clear A150
        by_cases c16 : t215 = true
        · subst c16
          have H1 : ((flashlockref10_Right.f a0_0 a0_3 a0_4).bind fun t216 => (flashlockref14_Right.j0 k (!t216) a0_0 a0_1 a0_2 a0_3 a0_4 a0_5 a0_6 a0_7)) = some r := by rw [if_pos rfl] at H; exact H
          clear H
          have H := H1
          clear H1
          replace H := Option.bind_eq_some_iff.mp H
          obtain ⟨t216, A170, H⟩ := H
          replace H : (flashlockref14_Right.j0 k (!t216) a0_0 a0_1 a0_2 a0_3 a0_4 a0_5 a0_6 a0_7) = some r := H
          have A17 := Aside0.mk A170
          clear A170
          have H' := Aside0.mk H
          clear H
          have hcz18_0 : w3.cell? ⟨gb212, 0, none⟩ = some (.int .i64 a0_0) := (blk_cell BK212.out 0).trans rfl
          have hcz18_1 : w3.cell? ⟨gb212, 1, none⟩ = some (.int .u64 a0_1) := (blk_cell BK212.out 1).trans rfl
          have hcz18_2 : w3.cell? ⟨gb212, 2, none⟩ = some (.int .u64 a0_2) := (blk_cell BK212.out 2).trans rfl
          have hcz18_3 : w3.cell? ⟨gb212, 3, none⟩ = some (.int .u64 a0_3) := (blk_cell BK212.out 3).trans rfl
          have hcz18_4 : w3.cell? ⟨gb212, 4, none⟩ = some (.int .u64 a0_4) := (blk_cell BK212.out 4).trans rfl
          have hcz18_5 : w3.cell? ⟨gb212, 5, none⟩ = some (.int .i64 a0_5) := (blk_cell BK212.out 5).trans rfl
          have hcz18_6 : w3.cell? ⟨gb212, 6, none⟩ = some (.int .i64 a0_6) := (blk_cell BK212.out 6).trans rfl
          have hcz18_7 : w3.cell? ⟨gb212, 7, none⟩ = some (.int .i64 a0_7) := (blk_cell BK212.out 7).trans rfl
          have hfz18_0 := blk_frozen BK212.out 0
          have hfz18_1 := blk_frozen BK212.out 1
          have hfz18_2 := blk_frozen BK212.out 2
          have hfz18_3 := blk_frozen BK212.out 3
          have hfz18_4 := blk_frozen BK212.out 4
          have hfz18_5 := blk_frozen BK212.out 5
          have hfz18_6 := blk_frozen BK212.out 6
          have hfz18_7 := blk_frozen BK212.out 7
          go_wp2_with (first | (go_at_call 75; (with_reducible refine (flashlockref10_Right.calls a0_0 a0_1 a0_2 true _ A15.out).mono ?_); rintro e w19 ⟨rfl, hb⟩; have n0_ := Aside0.mk (blk_below (g := gb212) (o := .cells #[.int .i64 a0_0, .int .u64 a0_1, .int .u64 a0_2, .int .u64 a0_3, .int .u64 a0_4, .int .i64 a0_5, .int .i64 a0_6, .int .i64 a0_7] 39 (0, 0)) (by (with_reducible repeat (first | refine blk_drewN ?_ _ | refine blk_drew ?_ | refine blk_alloc ?_ _)); exact BK212.out) hb); have n1_ := Aside0.mk (below_step (by repeat (first | (with_reducible first | exact HB.out | apply below_alloc | apply pw_below_drewN | apply below_drew1 | refine below_set ?_ GE212.out) | exact HB.out)) hb); clear BK212; clear HB; have BK212 := n0_; have HB := n1_; clear n0_ n1_; (try clear hb); (try clear hb2); (try clear hk); (try clear hi); have hcz20_0 : w19.cell? ⟨gb212, 0, none⟩ = some (.int .i64 a0_0) := (blk_cell BK212.out 0).trans rfl; have hcz20_1 : w19.cell? ⟨gb212, 1, none⟩ = some (.int .u64 a0_1) := (blk_cell BK212.out 1).trans rfl; have hcz20_2 : w19.cell? ⟨gb212, 2, none⟩ = some (.int .u64 a0_2) := (blk_cell BK212.out 2).trans rfl; have hcz20_3 : w19.cell? ⟨gb212, 3, none⟩ = some (.int .u64 a0_3) := (blk_cell BK212.out 3).trans rfl; have hcz20_4 : w19.cell? ⟨gb212, 4, none⟩ = some (.int .u64 a0_4) := (blk_cell BK212.out 4).trans rfl; have hcz20_5 : w19.cell? ⟨gb212, 5, none⟩ = some (.int .i64 a0_5) := (blk_cell BK212.out 5).trans rfl; have hcz20_6 : w19.cell? ⟨gb212, 6, none⟩ = some (.int .i64 a0_6) := (blk_cell BK212.out 6).trans rfl; have hcz20_7 : w19.cell? ⟨gb212, 7, none⟩ = some (.int .i64 a0_7) := (blk_cell BK212.out 7).trans rfl; have hfz20_0 := blk_frozen BK212.out 0; have hfz20_1 := blk_frozen BK212.out 1; have hfz20_2 := blk_frozen BK212.out 2; have hfz20_3 := blk_frozen BK212.out 3; have hfz20_4 := blk_frozen BK212.out 4; have hfz20_5 := blk_frozen BK212.out 5; have hfz20_6 := blk_frozen BK212.out 6; have hfz20_7 := blk_frozen BK212.out 7) | (go_at_call 75; (with_reducible refine (flashlockref10_Right.calls a0_0 a0_3 a0_4 t216 _ A17.out).mono ?_); rintro e w21 ⟨rfl, hb⟩; have n0_ := Aside0.mk (blk_below (g := gb212) (o := .cells #[.int .i64 a0_0, .int .u64 a0_1, .int .u64 a0_2, .int .u64 a0_3, .int .u64 a0_4, .int .i64 a0_5, .int .i64 a0_6, .int .i64 a0_7] 39 (0, 0)) (by (with_reducible repeat (first | refine blk_drewN ?_ _ | refine blk_drew ?_ | refine blk_alloc ?_ _)); exact BK212.out) hb); have n1_ := Aside0.mk (below_step (by repeat (first | (with_reducible first | exact HB.out | apply below_alloc | apply pw_below_drewN | apply below_drew1 | refine below_set ?_ GE212.out) | exact HB.out)) hb); clear BK212; clear HB; have BK212 := n0_; have HB := n1_; clear n0_ n1_; (try clear hb); (try clear hb2); (try clear hk); (try clear hi)))
          go_meet
          case rel => exact ⟨_, (!t216), (by first | rfl | (simp; done) | (simp [*]; done)), H', ⟨by first | omega | exact Nat.le_refl _⟩, ⟨by (with_reducible repeat (first | refine blk_drewN ?_ _ | refine blk_drew ?_ | refine blk_alloc ?_ _)); exact BK212.out⟩, ⟨by repeat (first | (with_reducible first | exact HB.out | apply below_alloc | apply pw_below_drewN | apply below_drew1 | refine below_set ?_ GE212.out) | exact HB.out)⟩⟩
        · replace c16 := Bool.eq_false_iff.mpr c16
          subst c16
          have H1 : (flashlockref14_Right.j0 k true a0_0 a0_1 a0_2 a0_3 a0_4 a0_5 a0_6 a0_7) = some r := by rw [if_neg (show ¬ (false = true) by decide)] at H; exact H
          clear H
          have H := H1
          clear H1
          have H' := Aside0.mk H
          clear H
          have hcz22_0 : w3.cell? ⟨gb212, 0, none⟩ = some (.int .i64 a0_0) := (blk_cell BK212.out 0).trans rfl
          have hcz22_1 : w3.cell? ⟨gb212, 1, none⟩ = some (.int .u64 a0_1) := (blk_cell BK212.out 1).trans rfl
          have hcz22_2 : w3.cell? ⟨gb212, 2, none⟩ = some (.int .u64 a0_2) := (blk_cell BK212.out 2).trans rfl
          have hcz22_3 : w3.cell? ⟨gb212, 3, none⟩ = some (.int .u64 a0_3) := (blk_cell BK212.out 3).trans rfl
          have hcz22_4 : w3.cell? ⟨gb212, 4, none⟩ = some (.int .u64 a0_4) := (blk_cell BK212.out 4).trans rfl
          have hcz22_5 : w3.cell? ⟨gb212, 5, none⟩ = some (.int .i64 a0_5) := (blk_cell BK212.out 5).trans rfl
          have hcz22_6 : w3.cell? ⟨gb212, 6, none⟩ = some (.int .i64 a0_6) := (blk_cell BK212.out 6).trans rfl
          have hcz22_7 : w3.cell? ⟨gb212, 7, none⟩ = some (.int .i64 a0_7) := (blk_cell BK212.out 7).trans rfl
          have hfz22_0 := blk_frozen BK212.out 0
          have hfz22_1 := blk_frozen BK212.out 1
          have hfz22_2 := blk_frozen BK212.out 2
          have hfz22_3 := blk_frozen BK212.out 3
          have hfz22_4 := blk_frozen BK212.out 4
          have hfz22_5 := blk_frozen BK212.out 5
          have hfz22_6 := blk_frozen BK212.out 6
          have hfz22_7 := blk_frozen BK212.out 7
          go_wp2_with (first | (go_at_call 75; (with_reducible refine (flashlockref10_Right.calls a0_0 a0_1 a0_2 false _ A15.out).mono ?_); rintro e w23 ⟨rfl, hb⟩; have n0_ := Aside0.mk (blk_below (g := gb212) (o := .cells #[.int .i64 a0_0, .int .u64 a0_1, .int .u64 a0_2, .int .u64 a0_3, .int .u64 a0_4, .int .i64 a0_5, .int .i64 a0_6, .int .i64 a0_7] 39 (0, 0)) (by (with_reducible repeat (first | refine blk_drewN ?_ _ | refine blk_drew ?_ | refine blk_alloc ?_ _)); exact BK212.out) hb); have n1_ := Aside0.mk (below_step (by repeat (first | (with_reducible first | exact HB.out | apply below_alloc | apply pw_below_drewN | apply below_drew1 | refine below_set ?_ GE212.out) | exact HB.out)) hb); clear BK212; clear HB; have BK212 := n0_; have HB := n1_; clear n0_ n1_; (try clear hb); (try clear hb2); (try clear hk); (try clear hi)))
          go_meet
          case rel => exact ⟨_, (true), (by first | rfl | (simp; done) | (simp [*]; done)), H', ⟨by first | omega | exact Nat.le_refl _⟩, ⟨by (with_reducible repeat (first | refine blk_drewN ?_ _ | refine blk_drew ?_ | refine blk_alloc ?_ _)); exact BK212.out⟩, ⟨by repeat (first | (with_reducible first | exact HB.out | apply below_alloc | apply pw_below_drewN | apply below_drew1 | refine below_set ?_ GE212.out) | exact HB.out)⟩⟩
      · rw [if_neg c14] at H
        have c14b0 : (a0_0 == 6) = false := beq_eq_false_iff_ne.mpr c14
        have c14b1 : (a0_0 != 6) = true := bne_iff_ne.mpr c14
        have H' := Aside0.mk H
        clear H
        have hcz24_0 : w3.cell? ⟨gb212, 0, none⟩ = some (.int .i64 a0_0) := (blk_cell BK212.out 0).trans rfl
        have hcz24_1 : w3.cell? ⟨gb212, 1, none⟩ = some (.int .u64 a0_1) := (blk_cell BK212.out 1).trans rfl
        have hcz24_2 : w3.cell? ⟨gb212, 2, none⟩ = some (.int .u64 a0_2) := (blk_cell BK212.out 2).trans rfl
        have hcz24_3 : w3.cell? ⟨gb212, 3, none⟩ = some (.int .u64 a0_3) := (blk_cell BK212.out 3).trans rfl
        have hcz24_4 : w3.cell? ⟨gb212, 4, none⟩ = some (.int .u64 a0_4) := (blk_cell BK212.out 4).trans rfl
        have hcz24_5 : w3.cell? ⟨gb212, 5, none⟩ = some (.int .i64 a0_5) := (blk_cell BK212.out 5).trans rfl
        have hcz24_6 : w3.cell? ⟨gb212, 6, none⟩ = some (.int .i64 a0_6) := (blk_cell BK212.out 6).trans rfl
        have hcz24_7 : w3.cell? ⟨gb212, 7, none⟩ = some (.int .i64 a0_7) := (blk_cell BK212.out 7).trans rfl
        have hfz24_0 := blk_frozen BK212.out 0
        have hfz24_1 := blk_frozen BK212.out 1
        have hfz24_2 := blk_frozen BK212.out 2
        have hfz24_3 := blk_frozen BK212.out 3
        have hfz24_4 := blk_frozen BK212.out 4
        have hfz24_5 := blk_frozen BK212.out 5
        have hfz24_6 := blk_frozen BK212.out 6
        have hfz24_7 := blk_frozen BK212.out 7
        go_wp2
        go_meet
        case rel => exact ⟨_, (true), (by first | rfl | (simp; done) | (simp [*]; done)), H', ⟨by first | omega | exact Nat.le_refl _⟩, ⟨by (with_reducible repeat (first | refine blk_drewN ?_ _ | refine blk_drew ?_ | refine blk_alloc ?_ _)); exact BK212.out⟩, ⟨by repeat (first | (with_reducible first | exact HB.out | apply below_alloc | apply pw_below_drewN | apply below_drew1 | refine below_set ?_ GE212.out) | exact HB.out)⟩⟩
  case rest =>
    clear HC2
    try clear c1
    try clear p2
    try clear c3
    try clear c4
    try clear c4b0
    try clear c4b1
    try clear c6
    try clear c14
    try clear c14b0
    try clear c14b1
    try clear c16
    try clear hcz10_0
    try clear hcz10_1
    try clear hcz10_2
    try clear hcz10_3
    try clear hcz10_4
    try clear hcz10_5
    try clear hcz10_6
    try clear hcz10_7
    try clear hcz12_0
    try clear hcz12_1
    try clear hcz12_2
    try clear hcz12_3
    try clear hcz12_4
    try clear hcz12_5
    try clear hcz12_6
    try clear hcz12_7
    try clear hcz18_0
    try clear hcz18_1
    try clear hcz18_2
    try clear hcz18_3
    try clear hcz18_4
    try clear hcz18_5
    try clear hcz18_6
    try clear hcz18_7
    try clear hcz20_0
    try clear hcz20_1
    try clear hcz20_2
    try clear hcz20_3
    try clear hcz20_4
    try clear hcz20_5
    try clear hcz20_6
    try clear hcz20_7
    try clear hcz22_0
    try clear hcz22_1
    try clear hcz22_2
    try clear hcz22_3
    try clear hcz22_4
    try clear hcz22_5
    try clear hcz22_6
    try clear hcz22_7
    try clear hcz24_0
    try clear hcz24_1
    try clear hcz24_2
    try clear hcz24_3
    try clear hcz24_4
    try clear hcz24_5
    try clear hcz24_6
    try clear hcz24_7
    try clear hcz8_0
    try clear hcz8_1
    try clear hcz8_2
    try clear hcz8_3
    try clear hcz8_4
    try clear hcz8_5
    try clear hcz8_6
    try clear hcz8_7
    try clear hfz10_0
    try clear hfz10_1
    try clear hfz10_2
    try clear hfz10_3
    try clear hfz10_4
    try clear hfz10_5
    try clear hfz10_6
    try clear hfz10_7
    try clear hfz12_0
    try clear hfz12_1
    try clear hfz12_2
    try clear hfz12_3
    try clear hfz12_4
    try clear hfz12_5
    try clear hfz12_6
    try clear hfz12_7
    try clear hfz18_0
    try clear hfz18_1
    try clear hfz18_2
    try clear hfz18_3
    try clear hfz18_4
    try clear hfz18_5
    try clear hfz18_6
    try clear hfz18_7
    try clear hfz20_0
    try clear hfz20_1
    try clear hfz20_2
    try clear hfz20_3
    try clear hfz20_4
    try clear hfz20_5
    try clear hfz20_6
    try clear hfz20_7
    try clear hfz22_0
    try clear hfz22_1
    try clear hfz22_2
    try clear hfz22_3
    try clear hfz22_4
    try clear hfz22_5
    try clear hfz22_6
    try clear hfz22_7
    try clear hfz24_0
    try clear hfz24_1
    try clear hfz24_2
    try clear hfz24_3
    try clear hfz24_4
    try clear hfz24_5
    try clear hfz24_6
    try clear hfz24_7
    try clear hfz8_0
    try clear hfz8_1
    try clear hfz8_2
    try clear hfz8_3
    try clear hfz8_4
    try clear hfz8_5
    try clear hfz8_6
    try clear hfz8_7
    obtain ⟨kq, x26_1, rfl, HA, HJ1, BK212, HB⟩ := hcut
    cases kq with
    | zero => exact absurd HA.out (by simp [flashlockref14_Right.j0])
    | succ kj1 =>
      have H := HA.out
      clear HA
      simp only [flashlockref14_Right.j0] at H
      by_cases c25 : x26_1 = true
      · subst c25
        have H1 : (some false) = some r := by rw [if_pos rfl] at H; exact H
        clear H
        have H := H1
        clear H1
        obtain rfl := Option.some.inj H
        go_wp2
        go_ret
        exact ⟨by first | rfl | (simp [errW_none, errW_some] <;> rfl) | (simp [*, errW_none, errW_some] <;> rfl), by repeat (first | (with_reducible first | exact HB.out | apply below_alloc | apply pw_below_drewN | apply below_drew1 | refine below_set ?_ GE212.out) | exact HB.out)⟩
      · replace c25 := Bool.eq_false_iff.mpr c25
        subst c25
        have H1 : (if a0_5 < 0 then (flashlockref14_Right.j1 kj1 true a0_0 a0_1 a0_2 a0_3 a0_4 a0_5 a0_6 a0_7) else (if a0_5 > 255 then (flashlockref14_Right.j1 kj1 true a0_0 a0_1 a0_2 a0_3 a0_4 a0_5 a0_6 a0_7) else (if a0_0 = 6 then ((flashlockref12_Follows.f a0_5).bind fun t217 => (flashlockref14_Right.j1 kj1 t217 a0_0 a0_1 a0_2 a0_3 a0_4 a0_5 a0_6 a0_7)) else (flashlockref14_Right.j1 kj1 false a0_0 a0_1 a0_2 a0_3 a0_4 a0_5 a0_6 a0_7)))) = some r := by rw [if_neg (show ¬ (false = true) by decide)] at H; exact H
        clear H
        have H := H1
        clear H1
        have HC26 := Aside0.mk H
        clear H
        go_upto_region 3 with (fail)
        go_cut [44] (fun v44 wc => ∃ (kq : Nat) (x44_25 : Bool), v44 = .bool x44_25 ∧ Aside0 (flashlockref14_Right.j1 kq x44_25 a0_0 a0_1 a0_2 a0_3 a0_4 a0_5 a0_6 a0_7 = some r) ∧ Aside0 (kq ≤ kj1) ∧ Aside0 (wc.heap[gb212]? = some (.cells #[.int .i64 a0_0, .int .u64 a0_1, .int .u64 a0_2, .int .u64 a0_3, .int .u64 a0_4, .int .i64 a0_5, .int .i64 a0_6, .int .i64 a0_7] 39 (0, 0))) ∧ Aside0 (Below w.heap.size w wc))
        case first =>
          have H := HC26.out
          clear HC26
          by_cases c27 : a0_5 < 0
          · rw [if_pos c27] at H
            have c27b0 : decide (a0_5 < 0) = true := decide_eq_true c27
            clear c27
            (first | rw [c27b0] | (simp only [i64_w, i32_w]; rw [c27b0]) | skip)
            have H' := Aside0.mk H
            clear H
            have hcz28_0 : wc.cell? ⟨gb212, 0, none⟩ = some (.int .i64 a0_0) := (blk_cell BK212.out 0).trans rfl
            have hcz28_1 : wc.cell? ⟨gb212, 1, none⟩ = some (.int .u64 a0_1) := (blk_cell BK212.out 1).trans rfl
            have hcz28_2 : wc.cell? ⟨gb212, 2, none⟩ = some (.int .u64 a0_2) := (blk_cell BK212.out 2).trans rfl
            have hcz28_3 : wc.cell? ⟨gb212, 3, none⟩ = some (.int .u64 a0_3) := (blk_cell BK212.out 3).trans rfl
            have hcz28_4 : wc.cell? ⟨gb212, 4, none⟩ = some (.int .u64 a0_4) := (blk_cell BK212.out 4).trans rfl
            have hcz28_5 : wc.cell? ⟨gb212, 5, none⟩ = some (.int .i64 a0_5) := (blk_cell BK212.out 5).trans rfl
            have hcz28_6 : wc.cell? ⟨gb212, 6, none⟩ = some (.int .i64 a0_6) := (blk_cell BK212.out 6).trans rfl
            have hcz28_7 : wc.cell? ⟨gb212, 7, none⟩ = some (.int .i64 a0_7) := (blk_cell BK212.out 7).trans rfl
            have hfz28_0 := blk_frozen BK212.out 0
            have hfz28_1 := blk_frozen BK212.out 1
            have hfz28_2 := blk_frozen BK212.out 2
            have hfz28_3 := blk_frozen BK212.out 3
            have hfz28_4 := blk_frozen BK212.out 4
            have hfz28_5 := blk_frozen BK212.out 5
            have hfz28_6 := blk_frozen BK212.out 6
            have hfz28_7 := blk_frozen BK212.out 7
            go_wp2
            go_meet
            case rel => exact ⟨_, (true), (by first | rfl | (simp; done) | (simp [*]; done)), H', ⟨by have := HJ1.out; first | omega | exact Nat.le_refl _⟩, ⟨by (with_reducible repeat (first | refine blk_drewN ?_ _ | refine blk_drew ?_ | refine blk_alloc ?_ _)); exact BK212.out⟩, ⟨by repeat (first | (with_reducible first | exact HB.out | apply below_alloc | apply pw_below_drewN | apply below_drew1 | refine below_set ?_ GE212.out) | exact HB.out)⟩⟩
          · rw [if_neg c27] at H
            have c27b0 : decide (a0_5 < 0) = false := decide_eq_false c27
            clear c27
            (first | rw [c27b0] | (simp only [i64_w, i32_w]; rw [c27b0]) | skip)
            by_cases c29 : a0_5 > 255
            · rw [if_pos c29] at H
              have c29b0 : decide (255 < a0_5) = true := decide_eq_true c29
              clear c29
              have H' := Aside0.mk H
              clear H
              have hcz30_0 : wc.cell? ⟨gb212, 0, none⟩ = some (.int .i64 a0_0) := (blk_cell BK212.out 0).trans rfl
              have hcz30_1 : wc.cell? ⟨gb212, 1, none⟩ = some (.int .u64 a0_1) := (blk_cell BK212.out 1).trans rfl
              have hcz30_2 : wc.cell? ⟨gb212, 2, none⟩ = some (.int .u64 a0_2) := (blk_cell BK212.out 2).trans rfl
              have hcz30_3 : wc.cell? ⟨gb212, 3, none⟩ = some (.int .u64 a0_3) := (blk_cell BK212.out 3).trans rfl
              have hcz30_4 : wc.cell? ⟨gb212, 4, none⟩ = some (.int .u64 a0_4) := (blk_cell BK212.out 4).trans rfl
              have hcz30_5 : wc.cell? ⟨gb212, 5, none⟩ = some (.int .i64 a0_5) := (blk_cell BK212.out 5).trans rfl
              have hcz30_6 : wc.cell? ⟨gb212, 6, none⟩ = some (.int .i64 a0_6) := (blk_cell BK212.out 6).trans rfl
              have hcz30_7 : wc.cell? ⟨gb212, 7, none⟩ = some (.int .i64 a0_7) := (blk_cell BK212.out 7).trans rfl
              have hfz30_0 := blk_frozen BK212.out 0
              have hfz30_1 := blk_frozen BK212.out 1
              have hfz30_2 := blk_frozen BK212.out 2
              have hfz30_3 := blk_frozen BK212.out 3
              have hfz30_4 := blk_frozen BK212.out 4
              have hfz30_5 := blk_frozen BK212.out 5
              have hfz30_6 := blk_frozen BK212.out 6
              have hfz30_7 := blk_frozen BK212.out 7
              go_wp2
              go_meet
              case rel => exact ⟨_, (true), (by first | rfl | (simp; done) | (simp [*]; done)), H', ⟨by have := HJ1.out; first | omega | exact Nat.le_refl _⟩, ⟨by (with_reducible repeat (first | refine blk_drewN ?_ _ | refine blk_drew ?_ | refine blk_alloc ?_ _)); exact BK212.out⟩, ⟨by repeat (first | (with_reducible first | exact HB.out | apply below_alloc | apply pw_below_drewN | apply below_drew1 | refine below_set ?_ GE212.out) | exact HB.out)⟩⟩
            · rw [if_neg c29] at H
              have c29b0 : decide (255 < a0_5) = false := decide_eq_false c29
              clear c29
              by_cases c31 : a0_0 = 6
              · rw [if_pos c31] at H
                have c31b0 : (a0_0 == 6) = true := beq_iff_eq.mpr c31
                have c31b1 : (a0_0 != 6) = false := bne_eq_false_iff_eq.mpr c31
                clear c31
                replace H := Option.bind_eq_some_iff.mp H
                obtain ⟨t217, A320, H⟩ := H
                replace H : (flashlockref14_Right.j1 kj1 t217 a0_0 a0_1 a0_2 a0_3 a0_4 a0_5 a0_6 a0_7) = some r := H
                have A32 := Aside0.mk A320
                clear A320
                have H' := Aside0.mk H
                clear H
                have hcz33_0 : wc.cell? ⟨gb212, 0, none⟩ = some (.int .i64 a0_0) := (blk_cell BK212.out 0).trans rfl
                have hcz33_1 : wc.cell? ⟨gb212, 1, none⟩ = some (.int .u64 a0_1) := (blk_cell BK212.out 1).trans rfl
                have hcz33_2 : wc.cell? ⟨gb212, 2, none⟩ = some (.int .u64 a0_2) := (blk_cell BK212.out 2).trans rfl
                have hcz33_3 : wc.cell? ⟨gb212, 3, none⟩ = some (.int .u64 a0_3) := (blk_cell BK212.out 3).trans rfl
                have hcz33_4 : wc.cell? ⟨gb212, 4, none⟩ = some (.int .u64 a0_4) := (blk_cell BK212.out 4).trans rfl
                have hcz33_5 : wc.cell? ⟨gb212, 5, none⟩ = some (.int .i64 a0_5) := (blk_cell BK212.out 5).trans rfl
                have hcz33_6 : wc.cell? ⟨gb212, 6, none⟩ = some (.int .i64 a0_6) := (blk_cell BK212.out 6).trans rfl
                have hcz33_7 : wc.cell? ⟨gb212, 7, none⟩ = some (.int .i64 a0_7) := (blk_cell BK212.out 7).trans rfl
                have hfz33_0 := blk_frozen BK212.out 0
                have hfz33_1 := blk_frozen BK212.out 1
                have hfz33_2 := blk_frozen BK212.out 2
                have hfz33_3 := blk_frozen BK212.out 3
                have hfz33_4 := blk_frozen BK212.out 4
                have hfz33_5 := blk_frozen BK212.out 5
                have hfz33_6 := blk_frozen BK212.out 6
                have hfz33_7 := blk_frozen BK212.out 7
                go_wp2_with (first | (go_at_call 94; (with_reducible refine (flashlockref12_Follows.calls a0_5 t217 _ A32.out).mono ?_); rintro e w' ⟨rfl, ⟨nd, rfl⟩⟩))
                go_meet
                case rel => exact ⟨_, (t217), (by first | rfl | (simp; done) | (simp [*]; done)), H', ⟨by have := HJ1.out; first | omega | exact Nat.le_refl _⟩, ⟨by (with_reducible repeat (first | refine blk_drewN ?_ _ | refine blk_drew ?_ | refine blk_alloc ?_ _)); exact BK212.out⟩, ⟨by repeat (first | (with_reducible first | exact HB.out | apply below_alloc | apply pw_below_drewN | apply below_drew1 | refine below_set ?_ GE212.out) | exact HB.out)⟩⟩
              · rw [if_neg c31] at H
                have c31b0 : (a0_0 == 6) = false := beq_eq_false_iff_ne.mpr c31
                have c31b1 : (a0_0 != 6) = true := bne_iff_ne.mpr c31
                have H' := Aside0.mk H
                clear H
                have hcz34_0 : wc.cell? ⟨gb212, 0, none⟩ = some (.int .i64 a0_0) := (blk_cell BK212.out 0).trans rfl
                have hcz34_1 : wc.cell? ⟨gb212, 1, none⟩ = some (.int .u64 a0_1) := (blk_cell BK212.out 1).trans rfl
                have hcz34_2 : wc.cell? ⟨gb212, 2, none⟩ = some (.int .u64 a0_2) := (blk_cell BK212.out 2).trans rfl
                have hcz34_3 : wc.cell? ⟨gb212, 3, none⟩ = some (.int .u64 a0_3) := (blk_cell BK212.out 3).trans rfl
                have hcz34_4 : wc.cell? ⟨gb212, 4, none⟩ = some (.int .u64 a0_4) := (blk_cell BK212.out 4).trans rfl
                have hcz34_5 : wc.cell? ⟨gb212, 5, none⟩ = some (.int .i64 a0_5) := (blk_cell BK212.out 5).trans rfl
                have hcz34_6 : wc.cell? ⟨gb212, 6, none⟩ = some (.int .i64 a0_6) := (blk_cell BK212.out 6).trans rfl
                have hcz34_7 : wc.cell? ⟨gb212, 7, none⟩ = some (.int .i64 a0_7) := (blk_cell BK212.out 7).trans rfl
                have hfz34_0 := blk_frozen BK212.out 0
                have hfz34_1 := blk_frozen BK212.out 1
                have hfz34_2 := blk_frozen BK212.out 2
                have hfz34_3 := blk_frozen BK212.out 3
                have hfz34_4 := blk_frozen BK212.out 4
                have hfz34_5 := blk_frozen BK212.out 5
                have hfz34_6 := blk_frozen BK212.out 6
                have hfz34_7 := blk_frozen BK212.out 7
                go_wp2
                go_meet
                case rel => exact ⟨_, (false), (by first | rfl | (simp; done) | (simp [*]; done)), H', ⟨by have := HJ1.out; first | omega | exact Nat.le_refl _⟩, ⟨by (with_reducible repeat (first | refine blk_drewN ?_ _ | refine blk_drew ?_ | refine blk_alloc ?_ _)); exact BK212.out⟩, ⟨by repeat (first | (with_reducible first | exact HB.out | apply below_alloc | apply pw_below_drewN | apply below_drew1 | refine below_set ?_ GE212.out) | exact HB.out)⟩⟩
        case rest =>
          clear HC26
          try clear c1
          try clear c2
          try clear p2
          try clear c3
          try clear c4
          try clear c4b0
          try clear c4b1
          try clear c6
          try clear c14
          try clear c14b0
          try clear c14b1
          try clear c16
          try clear c25
          try clear c27
          try clear c27b0
          try clear c29
          try clear c29b0
          try clear c31
          try clear c31b0
          try clear c31b1
          try clear hcz10_0
          try clear hcz10_1
          try clear hcz10_2
          try clear hcz10_3
          try clear hcz10_4
          try clear hcz10_5
          try clear hcz10_6
          try clear hcz10_7
          try clear hcz12_0
          try clear hcz12_1
          try clear hcz12_2
          try clear hcz12_3
          try clear hcz12_4
          try clear hcz12_5
          try clear hcz12_6
          try clear hcz12_7
          try clear hcz18_0
          try clear hcz18_1
          try clear hcz18_2
          try clear hcz18_3
          try clear hcz18_4
          try clear hcz18_5
          try clear hcz18_6
          try clear hcz18_7
          try clear hcz20_0
          try clear hcz20_1
          try clear hcz20_2
          try clear hcz20_3
          try clear hcz20_4
          try clear hcz20_5
          try clear hcz20_6
          try clear hcz20_7
          try clear hcz22_0
          try clear hcz22_1
          try clear hcz22_2
          try clear hcz22_3
          try clear hcz22_4
          try clear hcz22_5
          try clear hcz22_6
          try clear hcz22_7
          try clear hcz24_0
          try clear hcz24_1
          try clear hcz24_2
          try clear hcz24_3
          try clear hcz24_4
          try clear hcz24_5
          try clear hcz24_6
          try clear hcz24_7
          try clear hcz28_0
          try clear hcz28_1
          try clear hcz28_2
          try clear hcz28_3
          try clear hcz28_4
          try clear hcz28_5
          try clear hcz28_6
          try clear hcz28_7
          try clear hcz30_0
          try clear hcz30_1
          try clear hcz30_2
          try clear hcz30_3
          try clear hcz30_4
          try clear hcz30_5
          try clear hcz30_6
          try clear hcz30_7
          try clear hcz33_0
          try clear hcz33_1
          try clear hcz33_2
          try clear hcz33_3
          try clear hcz33_4
          try clear hcz33_5
          try clear hcz33_6
          try clear hcz33_7
          try clear hcz34_0
          try clear hcz34_1
          try clear hcz34_2
          try clear hcz34_3
          try clear hcz34_4
          try clear hcz34_5
          try clear hcz34_6
          try clear hcz34_7
          try clear hcz8_0
          try clear hcz8_1
          try clear hcz8_2
          try clear hcz8_3
          try clear hcz8_4
          try clear hcz8_5
          try clear hcz8_6
          try clear hcz8_7
          try clear hfz10_0
          try clear hfz10_1
          try clear hfz10_2
          try clear hfz10_3
          try clear hfz10_4
          try clear hfz10_5
          try clear hfz10_6
          try clear hfz10_7
          try clear hfz12_0
          try clear hfz12_1
          try clear hfz12_2
          try clear hfz12_3
          try clear hfz12_4
          try clear hfz12_5
          try clear hfz12_6
          try clear hfz12_7
          try clear hfz18_0
          try clear hfz18_1
          try clear hfz18_2
          try clear hfz18_3
          try clear hfz18_4
          try clear hfz18_5
          try clear hfz18_6
          try clear hfz18_7
          try clear hfz20_0
          try clear hfz20_1
          try clear hfz20_2
          try clear hfz20_3
          try clear hfz20_4
          try clear hfz20_5
          try clear hfz20_6
          try clear hfz20_7
          try clear hfz22_0
          try clear hfz22_1
          try clear hfz22_2
          try clear hfz22_3
          try clear hfz22_4
          try clear hfz22_5
          try clear hfz22_6
          try clear hfz22_7
          try clear hfz24_0
          try clear hfz24_1
          try clear hfz24_2
          try clear hfz24_3
          try clear hfz24_4
          try clear hfz24_5
          try clear hfz24_6
          try clear hfz24_7
          try clear hfz28_0
          try clear hfz28_1
          try clear hfz28_2
          try clear hfz28_3
          try clear hfz28_4
          try clear hfz28_5
          try clear hfz28_6
          try clear hfz28_7
          try clear hfz30_0
          try clear hfz30_1
          try clear hfz30_2
          try clear hfz30_3
          try clear hfz30_4
          try clear hfz30_5
          try clear hfz30_6
          try clear hfz30_7
          try clear hfz33_0
          try clear hfz33_1
          try clear hfz33_2
          try clear hfz33_3
          try clear hfz33_4
          try clear hfz33_5
          try clear hfz33_6
          try clear hfz33_7
          try clear hfz34_0
          try clear hfz34_1
          try clear hfz34_2
          try clear hfz34_3
          try clear hfz34_4
          try clear hfz34_5
          try clear hfz34_6
          try clear hfz34_7
          try clear hfz8_0
          try clear hfz8_1
          try clear hfz8_2
          try clear hfz8_3
          try clear hfz8_4
          try clear hfz8_5
          try clear hfz8_6
          try clear hfz8_7
          try clear p2
          obtain ⟨kq, x44_25, rfl, HA, HJ25, BK212, HB⟩ := hcut
          cases kq with
          | zero => exact absurd HA.out (by simp [flashlockref14_Right.j1])
          | succ kj25 =>
            have H := HA.out
            clear HA
            simp only [flashlockref14_Right.j1] at H
            by_cases c35 : x44_25 = true
            · subst c35
              have H1 : (some false) = some r := by rw [if_pos rfl] at H; exact H
              clear H
              have H := H1
              clear H1
              obtain rfl := Option.some.inj H
              go_wp2
              go_ret
              exact ⟨by first | rfl | (simp [errW_none, errW_some] <;> rfl) | (simp [*, errW_none, errW_some] <;> rfl), by repeat (first | (with_reducible first | exact HB.out | apply below_alloc | apply pw_below_drewN | apply below_drew1 | refine below_set ?_ GE212.out) | exact HB.out)⟩
            · replace c35 := Bool.eq_false_iff.mpr c35
              subst c35
              have H1 : (if a0_5 = 6 then (if a0_6 ≥ 0 then (if a0_6 ≤ 65535 then (if a0_7 ≥ 0 then (some (decide (a0_7 ≤ 65535))) else (some false)) else (some false)) else (some false)) else (if a0_5 = 17 then (if a0_6 ≥ 0 then (if a0_6 ≤ 65535 then (if a0_7 ≥ 0 then (some (decide (a0_7 ≤ 65535))) else (some false)) else (some false)) else (some false)) else (if a0_6 = 0 then (some (a0_7 == 0)) else (some false)))) = some r := by rw [if_neg (show ¬ (false = true) by decide)] at H; exact H
              clear H
              have H := H1
              clear H1
              by_cases c36 : a0_5 = 6
              · rw [if_pos c36] at H
                have c36b0 : (a0_5 == 6) = true := beq_iff_eq.mpr c36
                have c36b1 : (a0_5 != 6) = false := bne_eq_false_iff_eq.mpr c36
                clear c36
                by_cases c37 : a0_6 ≥ 0
                · rw [if_pos c37] at H
                  have c37b0 : decide (0 ≤ a0_6) = true := decide_eq_true c37
                  clear c37
                  by_cases c38 : a0_6 ≤ 65535
                  · rw [if_pos c38] at H
                    have c38b0 : decide (a0_6 ≤ 65535) = true := decide_eq_true c38
                    clear c38
                    by_cases c39 : a0_7 ≥ 0
                    · rw [if_pos c39] at H
                      have c39b0 : decide (0 ≤ a0_7) = true := decide_eq_true c39
                      clear c39
                      obtain rfl := Option.some.inj H
                      have hcz40_0 : wc.cell? ⟨gb212, 0, none⟩ = some (.int .i64 a0_0) := (blk_cell BK212.out 0).trans rfl
                      have hcz40_1 : wc.cell? ⟨gb212, 1, none⟩ = some (.int .u64 a0_1) := (blk_cell BK212.out 1).trans rfl
                      have hcz40_2 : wc.cell? ⟨gb212, 2, none⟩ = some (.int .u64 a0_2) := (blk_cell BK212.out 2).trans rfl
                      have hcz40_3 : wc.cell? ⟨gb212, 3, none⟩ = some (.int .u64 a0_3) := (blk_cell BK212.out 3).trans rfl
                      have hcz40_4 : wc.cell? ⟨gb212, 4, none⟩ = some (.int .u64 a0_4) := (blk_cell BK212.out 4).trans rfl
                      have hcz40_5 : wc.cell? ⟨gb212, 5, none⟩ = some (.int .i64 a0_5) := (blk_cell BK212.out 5).trans rfl
                      have hcz40_6 : wc.cell? ⟨gb212, 6, none⟩ = some (.int .i64 a0_6) := (blk_cell BK212.out 6).trans rfl
                      have hcz40_7 : wc.cell? ⟨gb212, 7, none⟩ = some (.int .i64 a0_7) := (blk_cell BK212.out 7).trans rfl
                      have hfz40_0 := blk_frozen BK212.out 0
                      have hfz40_1 := blk_frozen BK212.out 1
                      have hfz40_2 := blk_frozen BK212.out 2
                      have hfz40_3 := blk_frozen BK212.out 3
                      have hfz40_4 := blk_frozen BK212.out 4
                      have hfz40_5 := blk_frozen BK212.out 5
                      have hfz40_6 := blk_frozen BK212.out 6
                      have hfz40_7 := blk_frozen BK212.out 7
                      go_wp2
                      go_ret
                      exact ⟨by first | rfl | (simp [errW_none, errW_some] <;> rfl) | (simp [*, errW_none, errW_some] <;> rfl), by repeat (first | (with_reducible first | exact HB.out | apply below_alloc | apply pw_below_drewN | apply below_drew1 | refine below_set ?_ GE212.out) | exact HB.out)⟩
                    · rw [if_neg c39] at H
                      have c39b0 : decide (0 ≤ a0_7) = false := decide_eq_false c39
                      clear c39
                      obtain rfl := Option.some.inj H
                      have hcz41_0 : wc.cell? ⟨gb212, 0, none⟩ = some (.int .i64 a0_0) := (blk_cell BK212.out 0).trans rfl
                      have hcz41_1 : wc.cell? ⟨gb212, 1, none⟩ = some (.int .u64 a0_1) := (blk_cell BK212.out 1).trans rfl
                      have hcz41_2 : wc.cell? ⟨gb212, 2, none⟩ = some (.int .u64 a0_2) := (blk_cell BK212.out 2).trans rfl
                      have hcz41_3 : wc.cell? ⟨gb212, 3, none⟩ = some (.int .u64 a0_3) := (blk_cell BK212.out 3).trans rfl
                      have hcz41_4 : wc.cell? ⟨gb212, 4, none⟩ = some (.int .u64 a0_4) := (blk_cell BK212.out 4).trans rfl
                      have hcz41_5 : wc.cell? ⟨gb212, 5, none⟩ = some (.int .i64 a0_5) := (blk_cell BK212.out 5).trans rfl
                      have hcz41_6 : wc.cell? ⟨gb212, 6, none⟩ = some (.int .i64 a0_6) := (blk_cell BK212.out 6).trans rfl
                      have hcz41_7 : wc.cell? ⟨gb212, 7, none⟩ = some (.int .i64 a0_7) := (blk_cell BK212.out 7).trans rfl
                      have hfz41_0 := blk_frozen BK212.out 0
                      have hfz41_1 := blk_frozen BK212.out 1
                      have hfz41_2 := blk_frozen BK212.out 2
                      have hfz41_3 := blk_frozen BK212.out 3
                      have hfz41_4 := blk_frozen BK212.out 4
                      have hfz41_5 := blk_frozen BK212.out 5
                      have hfz41_6 := blk_frozen BK212.out 6
                      have hfz41_7 := blk_frozen BK212.out 7
                      go_wp2
                      go_ret
                      exact ⟨by first | rfl | (simp [errW_none, errW_some] <;> rfl) | (simp [*, errW_none, errW_some] <;> rfl), by repeat (first | (with_reducible first | exact HB.out | apply below_alloc | apply pw_below_drewN | apply below_drew1 | refine below_set ?_ GE212.out) | exact HB.out)⟩
                  · rw [if_neg c38] at H
                    have c38b0 : decide (a0_6 ≤ 65535) = false := decide_eq_false c38
                    clear c38
                    obtain rfl := Option.some.inj H
                    have hcz42_0 : wc.cell? ⟨gb212, 0, none⟩ = some (.int .i64 a0_0) := (blk_cell BK212.out 0).trans rfl
                    have hcz42_1 : wc.cell? ⟨gb212, 1, none⟩ = some (.int .u64 a0_1) := (blk_cell BK212.out 1).trans rfl
                    have hcz42_2 : wc.cell? ⟨gb212, 2, none⟩ = some (.int .u64 a0_2) := (blk_cell BK212.out 2).trans rfl
                    have hcz42_3 : wc.cell? ⟨gb212, 3, none⟩ = some (.int .u64 a0_3) := (blk_cell BK212.out 3).trans rfl
                    have hcz42_4 : wc.cell? ⟨gb212, 4, none⟩ = some (.int .u64 a0_4) := (blk_cell BK212.out 4).trans rfl
                    have hcz42_5 : wc.cell? ⟨gb212, 5, none⟩ = some (.int .i64 a0_5) := (blk_cell BK212.out 5).trans rfl
                    have hcz42_6 : wc.cell? ⟨gb212, 6, none⟩ = some (.int .i64 a0_6) := (blk_cell BK212.out 6).trans rfl
                    have hcz42_7 : wc.cell? ⟨gb212, 7, none⟩ = some (.int .i64 a0_7) := (blk_cell BK212.out 7).trans rfl
                    have hfz42_0 := blk_frozen BK212.out 0
                    have hfz42_1 := blk_frozen BK212.out 1
                    have hfz42_2 := blk_frozen BK212.out 2
                    have hfz42_3 := blk_frozen BK212.out 3
                    have hfz42_4 := blk_frozen BK212.out 4
                    have hfz42_5 := blk_frozen BK212.out 5
                    have hfz42_6 := blk_frozen BK212.out 6
                    have hfz42_7 := blk_frozen BK212.out 7
                    go_wp2
                    go_ret
                    exact ⟨by first | rfl | (simp [errW_none, errW_some] <;> rfl) | (simp [*, errW_none, errW_some] <;> rfl), by repeat (first | (with_reducible first | exact HB.out | apply below_alloc | apply pw_below_drewN | apply below_drew1 | refine below_set ?_ GE212.out) | exact HB.out)⟩
                · rw [if_neg c37] at H
                  have c37b0 : decide (0 ≤ a0_6) = false := decide_eq_false c37
                  clear c37
                  obtain rfl := Option.some.inj H
                  have hcz43_0 : wc.cell? ⟨gb212, 0, none⟩ = some (.int .i64 a0_0) := (blk_cell BK212.out 0).trans rfl
                  have hcz43_1 : wc.cell? ⟨gb212, 1, none⟩ = some (.int .u64 a0_1) := (blk_cell BK212.out 1).trans rfl
                  have hcz43_2 : wc.cell? ⟨gb212, 2, none⟩ = some (.int .u64 a0_2) := (blk_cell BK212.out 2).trans rfl
                  have hcz43_3 : wc.cell? ⟨gb212, 3, none⟩ = some (.int .u64 a0_3) := (blk_cell BK212.out 3).trans rfl
                  have hcz43_4 : wc.cell? ⟨gb212, 4, none⟩ = some (.int .u64 a0_4) := (blk_cell BK212.out 4).trans rfl
                  have hcz43_5 : wc.cell? ⟨gb212, 5, none⟩ = some (.int .i64 a0_5) := (blk_cell BK212.out 5).trans rfl
                  have hcz43_6 : wc.cell? ⟨gb212, 6, none⟩ = some (.int .i64 a0_6) := (blk_cell BK212.out 6).trans rfl
                  have hcz43_7 : wc.cell? ⟨gb212, 7, none⟩ = some (.int .i64 a0_7) := (blk_cell BK212.out 7).trans rfl
                  have hfz43_0 := blk_frozen BK212.out 0
                  have hfz43_1 := blk_frozen BK212.out 1
                  have hfz43_2 := blk_frozen BK212.out 2
                  have hfz43_3 := blk_frozen BK212.out 3
                  have hfz43_4 := blk_frozen BK212.out 4
                  have hfz43_5 := blk_frozen BK212.out 5
                  have hfz43_6 := blk_frozen BK212.out 6
                  have hfz43_7 := blk_frozen BK212.out 7
                  go_wp2
                  go_ret
                  exact ⟨by first | rfl | (simp [errW_none, errW_some] <;> rfl) | (simp [*, errW_none, errW_some] <;> rfl), by repeat (first | (with_reducible first | exact HB.out | apply below_alloc | apply pw_below_drewN | apply below_drew1 | refine below_set ?_ GE212.out) | exact HB.out)⟩
              · rw [if_neg c36] at H
                have c36b0 : (a0_5 == 6) = false := beq_eq_false_iff_ne.mpr c36
                have c36b1 : (a0_5 != 6) = true := bne_iff_ne.mpr c36
                by_cases c44 : a0_5 = 17
                · rw [if_pos c44] at H
                  have c44b0 : (a0_5 == 17) = true := beq_iff_eq.mpr c44
                  have c44b1 : (a0_5 != 17) = false := bne_eq_false_iff_eq.mpr c44
                  clear c44
                  by_cases c45 : a0_6 ≥ 0
                  · rw [if_pos c45] at H
                    have c45b0 : decide (0 ≤ a0_6) = true := decide_eq_true c45
                    clear c45
                    by_cases c46 : a0_6 ≤ 65535
                    · rw [if_pos c46] at H
                      have c46b0 : decide (a0_6 ≤ 65535) = true := decide_eq_true c46
                      clear c46
                      by_cases c47 : a0_7 ≥ 0
                      · rw [if_pos c47] at H
                        have c47b0 : decide (0 ≤ a0_7) = true := decide_eq_true c47
                        clear c47
                        obtain rfl := Option.some.inj H
                        have hcz48_0 : wc.cell? ⟨gb212, 0, none⟩ = some (.int .i64 a0_0) := (blk_cell BK212.out 0).trans rfl
                        have hcz48_1 : wc.cell? ⟨gb212, 1, none⟩ = some (.int .u64 a0_1) := (blk_cell BK212.out 1).trans rfl
                        have hcz48_2 : wc.cell? ⟨gb212, 2, none⟩ = some (.int .u64 a0_2) := (blk_cell BK212.out 2).trans rfl
                        have hcz48_3 : wc.cell? ⟨gb212, 3, none⟩ = some (.int .u64 a0_3) := (blk_cell BK212.out 3).trans rfl
                        have hcz48_4 : wc.cell? ⟨gb212, 4, none⟩ = some (.int .u64 a0_4) := (blk_cell BK212.out 4).trans rfl
                        have hcz48_5 : wc.cell? ⟨gb212, 5, none⟩ = some (.int .i64 a0_5) := (blk_cell BK212.out 5).trans rfl
                        have hcz48_6 : wc.cell? ⟨gb212, 6, none⟩ = some (.int .i64 a0_6) := (blk_cell BK212.out 6).trans rfl
                        have hcz48_7 : wc.cell? ⟨gb212, 7, none⟩ = some (.int .i64 a0_7) := (blk_cell BK212.out 7).trans rfl
                        have hfz48_0 := blk_frozen BK212.out 0
                        have hfz48_1 := blk_frozen BK212.out 1
                        have hfz48_2 := blk_frozen BK212.out 2
                        have hfz48_3 := blk_frozen BK212.out 3
                        have hfz48_4 := blk_frozen BK212.out 4
                        have hfz48_5 := blk_frozen BK212.out 5
                        have hfz48_6 := blk_frozen BK212.out 6
                        have hfz48_7 := blk_frozen BK212.out 7
                        go_wp2
                        go_ret
                        exact ⟨by first | rfl | (simp [errW_none, errW_some] <;> rfl) | (simp [*, errW_none, errW_some] <;> rfl), by repeat (first | (with_reducible first | exact HB.out | apply below_alloc | apply pw_below_drewN | apply below_drew1 | refine below_set ?_ GE212.out) | exact HB.out)⟩
                      · rw [if_neg c47] at H
                        have c47b0 : decide (0 ≤ a0_7) = false := decide_eq_false c47
                        clear c47
                        obtain rfl := Option.some.inj H
                        have hcz49_0 : wc.cell? ⟨gb212, 0, none⟩ = some (.int .i64 a0_0) := (blk_cell BK212.out 0).trans rfl
                        have hcz49_1 : wc.cell? ⟨gb212, 1, none⟩ = some (.int .u64 a0_1) := (blk_cell BK212.out 1).trans rfl
                        have hcz49_2 : wc.cell? ⟨gb212, 2, none⟩ = some (.int .u64 a0_2) := (blk_cell BK212.out 2).trans rfl
                        have hcz49_3 : wc.cell? ⟨gb212, 3, none⟩ = some (.int .u64 a0_3) := (blk_cell BK212.out 3).trans rfl
                        have hcz49_4 : wc.cell? ⟨gb212, 4, none⟩ = some (.int .u64 a0_4) := (blk_cell BK212.out 4).trans rfl
                        have hcz49_5 : wc.cell? ⟨gb212, 5, none⟩ = some (.int .i64 a0_5) := (blk_cell BK212.out 5).trans rfl
                        have hcz49_6 : wc.cell? ⟨gb212, 6, none⟩ = some (.int .i64 a0_6) := (blk_cell BK212.out 6).trans rfl
                        have hcz49_7 : wc.cell? ⟨gb212, 7, none⟩ = some (.int .i64 a0_7) := (blk_cell BK212.out 7).trans rfl
                        have hfz49_0 := blk_frozen BK212.out 0
                        have hfz49_1 := blk_frozen BK212.out 1
                        have hfz49_2 := blk_frozen BK212.out 2
                        have hfz49_3 := blk_frozen BK212.out 3
                        have hfz49_4 := blk_frozen BK212.out 4
                        have hfz49_5 := blk_frozen BK212.out 5
                        have hfz49_6 := blk_frozen BK212.out 6
                        have hfz49_7 := blk_frozen BK212.out 7
                        go_wp2
                        go_ret
                        exact ⟨by first | rfl | (simp [errW_none, errW_some] <;> rfl) | (simp [*, errW_none, errW_some] <;> rfl), by repeat (first | (with_reducible first | exact HB.out | apply below_alloc | apply pw_below_drewN | apply below_drew1 | refine below_set ?_ GE212.out) | exact HB.out)⟩
                    · rw [if_neg c46] at H
                      have c46b0 : decide (a0_6 ≤ 65535) = false := decide_eq_false c46
                      clear c46
                      obtain rfl := Option.some.inj H
                      have hcz50_0 : wc.cell? ⟨gb212, 0, none⟩ = some (.int .i64 a0_0) := (blk_cell BK212.out 0).trans rfl
                      have hcz50_1 : wc.cell? ⟨gb212, 1, none⟩ = some (.int .u64 a0_1) := (blk_cell BK212.out 1).trans rfl
                      have hcz50_2 : wc.cell? ⟨gb212, 2, none⟩ = some (.int .u64 a0_2) := (blk_cell BK212.out 2).trans rfl
                      have hcz50_3 : wc.cell? ⟨gb212, 3, none⟩ = some (.int .u64 a0_3) := (blk_cell BK212.out 3).trans rfl
                      have hcz50_4 : wc.cell? ⟨gb212, 4, none⟩ = some (.int .u64 a0_4) := (blk_cell BK212.out 4).trans rfl
                      have hcz50_5 : wc.cell? ⟨gb212, 5, none⟩ = some (.int .i64 a0_5) := (blk_cell BK212.out 5).trans rfl
                      have hcz50_6 : wc.cell? ⟨gb212, 6, none⟩ = some (.int .i64 a0_6) := (blk_cell BK212.out 6).trans rfl
                      have hcz50_7 : wc.cell? ⟨gb212, 7, none⟩ = some (.int .i64 a0_7) := (blk_cell BK212.out 7).trans rfl
                      have hfz50_0 := blk_frozen BK212.out 0
                      have hfz50_1 := blk_frozen BK212.out 1
                      have hfz50_2 := blk_frozen BK212.out 2
                      have hfz50_3 := blk_frozen BK212.out 3
                      have hfz50_4 := blk_frozen BK212.out 4
                      have hfz50_5 := blk_frozen BK212.out 5
                      have hfz50_6 := blk_frozen BK212.out 6
                      have hfz50_7 := blk_frozen BK212.out 7
                      go_wp2
                      go_ret
                      exact ⟨by first | rfl | (simp [errW_none, errW_some] <;> rfl) | (simp [*, errW_none, errW_some] <;> rfl), by repeat (first | (with_reducible first | exact HB.out | apply below_alloc | apply pw_below_drewN | apply below_drew1 | refine below_set ?_ GE212.out) | exact HB.out)⟩
                  · rw [if_neg c45] at H
                    have c45b0 : decide (0 ≤ a0_6) = false := decide_eq_false c45
                    clear c45
                    obtain rfl := Option.some.inj H
                    have hcz51_0 : wc.cell? ⟨gb212, 0, none⟩ = some (.int .i64 a0_0) := (blk_cell BK212.out 0).trans rfl
                    have hcz51_1 : wc.cell? ⟨gb212, 1, none⟩ = some (.int .u64 a0_1) := (blk_cell BK212.out 1).trans rfl
                    have hcz51_2 : wc.cell? ⟨gb212, 2, none⟩ = some (.int .u64 a0_2) := (blk_cell BK212.out 2).trans rfl
                    have hcz51_3 : wc.cell? ⟨gb212, 3, none⟩ = some (.int .u64 a0_3) := (blk_cell BK212.out 3).trans rfl
                    have hcz51_4 : wc.cell? ⟨gb212, 4, none⟩ = some (.int .u64 a0_4) := (blk_cell BK212.out 4).trans rfl
                    have hcz51_5 : wc.cell? ⟨gb212, 5, none⟩ = some (.int .i64 a0_5) := (blk_cell BK212.out 5).trans rfl
                    have hcz51_6 : wc.cell? ⟨gb212, 6, none⟩ = some (.int .i64 a0_6) := (blk_cell BK212.out 6).trans rfl
                    have hcz51_7 : wc.cell? ⟨gb212, 7, none⟩ = some (.int .i64 a0_7) := (blk_cell BK212.out 7).trans rfl
                    have hfz51_0 := blk_frozen BK212.out 0
                    have hfz51_1 := blk_frozen BK212.out 1
                    have hfz51_2 := blk_frozen BK212.out 2
                    have hfz51_3 := blk_frozen BK212.out 3
                    have hfz51_4 := blk_frozen BK212.out 4
                    have hfz51_5 := blk_frozen BK212.out 5
                    have hfz51_6 := blk_frozen BK212.out 6
                    have hfz51_7 := blk_frozen BK212.out 7
                    go_wp2
                    go_ret
                    exact ⟨by first | rfl | (simp [errW_none, errW_some] <;> rfl) | (simp [*, errW_none, errW_some] <;> rfl), by repeat (first | (with_reducible first | exact HB.out | apply below_alloc | apply pw_below_drewN | apply below_drew1 | refine below_set ?_ GE212.out) | exact HB.out)⟩
                · rw [if_neg c44] at H
                  have c44b0 : (a0_5 == 17) = false := beq_eq_false_iff_ne.mpr c44
                  have c44b1 : (a0_5 != 17) = true := bne_iff_ne.mpr c44
                  by_cases c52 : a0_6 = 0
                  · rw [if_pos c52] at H
                    have c52b0 : (a0_6 == 0) = true := beq_iff_eq.mpr c52
                    have c52b1 : (a0_6 != 0) = false := bne_eq_false_iff_eq.mpr c52
                    clear c52
                    obtain rfl := Option.some.inj H
                    have hcz53_0 : wc.cell? ⟨gb212, 0, none⟩ = some (.int .i64 a0_0) := (blk_cell BK212.out 0).trans rfl
                    have hcz53_1 : wc.cell? ⟨gb212, 1, none⟩ = some (.int .u64 a0_1) := (blk_cell BK212.out 1).trans rfl
                    have hcz53_2 : wc.cell? ⟨gb212, 2, none⟩ = some (.int .u64 a0_2) := (blk_cell BK212.out 2).trans rfl
                    have hcz53_3 : wc.cell? ⟨gb212, 3, none⟩ = some (.int .u64 a0_3) := (blk_cell BK212.out 3).trans rfl
                    have hcz53_4 : wc.cell? ⟨gb212, 4, none⟩ = some (.int .u64 a0_4) := (blk_cell BK212.out 4).trans rfl
                    have hcz53_5 : wc.cell? ⟨gb212, 5, none⟩ = some (.int .i64 a0_5) := (blk_cell BK212.out 5).trans rfl
                    have hcz53_6 : wc.cell? ⟨gb212, 6, none⟩ = some (.int .i64 a0_6) := (blk_cell BK212.out 6).trans rfl
                    have hcz53_7 : wc.cell? ⟨gb212, 7, none⟩ = some (.int .i64 a0_7) := (blk_cell BK212.out 7).trans rfl
                    have hfz53_0 := blk_frozen BK212.out 0
                    have hfz53_1 := blk_frozen BK212.out 1
                    have hfz53_2 := blk_frozen BK212.out 2
                    have hfz53_3 := blk_frozen BK212.out 3
                    have hfz53_4 := blk_frozen BK212.out 4
                    have hfz53_5 := blk_frozen BK212.out 5
                    have hfz53_6 := blk_frozen BK212.out 6
                    have hfz53_7 := blk_frozen BK212.out 7
                    go_wp2
                    go_ret
                    exact ⟨by first | rfl | (simp [errW_none, errW_some] <;> rfl) | (simp [*, errW_none, errW_some] <;> rfl), by repeat (first | (with_reducible first | exact HB.out | apply below_alloc | apply pw_below_drewN | apply below_drew1 | refine below_set ?_ GE212.out) | exact HB.out)⟩
                  · rw [if_neg c52] at H
                    have c52b0 : (a0_6 == 0) = false := beq_eq_false_iff_ne.mpr c52
                    have c52b1 : (a0_6 != 0) = true := bne_iff_ne.mpr c52
                    obtain rfl := Option.some.inj H
                    have hcz54_0 : wc.cell? ⟨gb212, 0, none⟩ = some (.int .i64 a0_0) := (blk_cell BK212.out 0).trans rfl
                    have hcz54_1 : wc.cell? ⟨gb212, 1, none⟩ = some (.int .u64 a0_1) := (blk_cell BK212.out 1).trans rfl
                    have hcz54_2 : wc.cell? ⟨gb212, 2, none⟩ = some (.int .u64 a0_2) := (blk_cell BK212.out 2).trans rfl
                    have hcz54_3 : wc.cell? ⟨gb212, 3, none⟩ = some (.int .u64 a0_3) := (blk_cell BK212.out 3).trans rfl
                    have hcz54_4 : wc.cell? ⟨gb212, 4, none⟩ = some (.int .u64 a0_4) := (blk_cell BK212.out 4).trans rfl
                    have hcz54_5 : wc.cell? ⟨gb212, 5, none⟩ = some (.int .i64 a0_5) := (blk_cell BK212.out 5).trans rfl
                    have hcz54_6 : wc.cell? ⟨gb212, 6, none⟩ = some (.int .i64 a0_6) := (blk_cell BK212.out 6).trans rfl
                    have hcz54_7 : wc.cell? ⟨gb212, 7, none⟩ = some (.int .i64 a0_7) := (blk_cell BK212.out 7).trans rfl
                    have hfz54_0 := blk_frozen BK212.out 0
                    have hfz54_1 := blk_frozen BK212.out 1
                    have hfz54_2 := blk_frozen BK212.out 2
                    have hfz54_3 := blk_frozen BK212.out 3
                    have hfz54_4 := blk_frozen BK212.out 4
                    have hfz54_5 := blk_frozen BK212.out 5
                    have hfz54_6 := blk_frozen BK212.out 6
                    have hfz54_7 := blk_frozen BK212.out 7
                    go_wp2
                    go_ret
                    exact ⟨by first | rfl | (simp [errW_none, errW_some] <;> rfl) | (simp [*, errW_none, errW_some] <;> rfl), by repeat (first | (with_reducible first | exact HB.out | apply below_alloc | apply pw_below_drewN | apply below_drew1 | refine below_set ?_ GE212.out) | exact HB.out)⟩

end Go.Proofs.Ytlnnghbbjbimoaa.PF
