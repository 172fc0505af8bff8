-- written by wip/tools/pr.py over the kit's print.py, out of the translation; Lean checks it
import Derived.Test.YtkgcoeagifjbpaaPRx0
import Derived.Test.YtkgcoeagifjbpaaPRx2
import Derived.Test.YtkgcoeagifjbpaaPRx6
import Derived.Test.YtkgcoeagifjbpaaPRx7
namespace Go.Proofs.Ytkgcoeagifjbpaa.PR
open Go.RowKit Go.Proofs.YtkgcoeagifjbpaaW.PrintWords Go.Proofs.YtkgcoeagifjbpaaW.PrintLast Go.Proofs.YtkgcoeagifjbpaaW.PrintMore
attribute [local go_sem] max2_int min2_int max_two min_two max_three min_three max_four min_four   -- for this text's walks alone
set_option linter.unusedVariables false
set_option linter.unusedSimpArgs false

/-! ### flashlockref11_Make: function 23 -/
def flashlockref11_Make.j0 : Nat → ByteArray → Int → Int → Int → Int → Int → Int → Int → Int → Int → Bool → Option (ByteArray)
  | 0, _, _, _, _, _, _, _, _, _, _, _ => none
  | k + 1, x1, x5, x195000, x195001, x195002, x195003, x195004, x195005, x195006, x195007, x195008 => (flashlockref11_Low.f k (wrap64 (20 + (x1.size : Int))) 2).bind fun t195 => (if 2 + t195.size ≤ 9223372036854775807 then (if ((⟨#[69, 0]⟩ : ByteArray) ++ t195).size + 2 ≤ 9223372036854775807 then ((flashlockref11_Low.f k x5 2).bind fun t196 => (if (((⟨#[69, 0]⟩ : ByteArray) ++ t195) ++ (⟨#[0, 0]⟩ : ByteArray)).size + t196.size ≤ 9223372036854775807 then (if ((((⟨#[69, 0]⟩ : ByteArray) ++ t195) ++ (⟨#[0, 0]⟩ : ByteArray)) ++ t196).size + 1 ≤ 9223372036854775807 then ((flashlockref11_Low.f k x195004 1).bind fun t197 => (if (((((⟨#[69, 0]⟩ : ByteArray) ++ t195) ++ (⟨#[0, 0]⟩ : ByteArray)) ++ t196) ++ (⟨#[0]⟩ : ByteArray)).size + t197.size ≤ 9223372036854775807 then ((flashlockref09_PutNum.f k x195001 4).bind fun t198 => ((flashlockref09_PutNum.f k x195003 4).bind fun t199 => (if t198.size + t199.size ≤ 9223372036854775807 then (if ((((((⟨#[69, 0]⟩ : ByteArray) ++ t195) ++ (⟨#[0, 0]⟩ : ByteArray)) ++ t196) ++ (⟨#[0]⟩ : ByteArray)) ++ t197).size + (t198 ++ t199).size ≤ 9223372036854775807 then ((flashlockref11_Sum.f k (((((((⟨#[69, 0]⟩ : ByteArray) ++ t195) ++ (⟨#[0, 0]⟩ : ByteArray)) ++ t196) ++ (⟨#[0]⟩ : ByteArray)) ++ t197) ++ (t198 ++ t199))).bind fun t200 => ((flashlockref11_Low.f k t200 2).bind fun t201 => (if ((((((⟨#[69, 0]⟩ : ByteArray) ++ t195) ++ (⟨#[0, 0]⟩ : ByteArray)) ++ t196) ++ (⟨#[0]⟩ : ByteArray)) ++ t197).size + t201.size ≤ 9223372036854775807 then (if (((((((⟨#[69, 0]⟩ : ByteArray) ++ t195) ++ (⟨#[0, 0]⟩ : ByteArray)) ++ t196) ++ (⟨#[0]⟩ : ByteArray)) ++ t197) ++ t201).size + (t198 ++ t199).size ≤ 9223372036854775807 then (if ((((((((⟨#[69, 0]⟩ : ByteArray) ++ t195) ++ (⟨#[0, 0]⟩ : ByteArray)) ++ t196) ++ (⟨#[0]⟩ : ByteArray)) ++ t197) ++ t201) ++ (t198 ++ t199)).size + x1.size ≤ 9223372036854775807 then (some (((((((((⟨#[69, 0]⟩ : ByteArray) ++ t195) ++ (⟨#[0, 0]⟩ : ByteArray)) ++ t196) ++ (⟨#[0]⟩ : ByteArray)) ++ t197) ++ t201) ++ (t198 ++ t199)) ++ x1)) else (none)) else (none)) else (none)))) else (none)) else (none)))) else (none))) else (none)) else (none))) else (none)) else (none))
def flashlockref11_Make.f (k : Nat) (a0_0 : Int) (a0_1 : Int) (a0_2 : Int) (a0_3 : Int) (a0_4 : Int) (a0_5 : Int) (a0_6 : Int) (a0_7 : Int) (a0_8 : Bool) (a1 : ByteArray) : Option (ByteArray) := if (a1.size : Int) > 65515 then (some (⟨#[]⟩ : ByteArray)) else (if a0_8 = true then (flashlockref11_Make.j0 k a1 (wrap64 ((wrap64 (Int.tmod (IntKind.u64.wrap (a0_7)) 8192)) + 8192)) a0_0 a0_1 a0_2 a0_3 a0_4 a0_5 a0_6 a0_7 a0_8) else (flashlockref11_Make.j0 k a1 (wrap64 (Int.tmod (IntKind.u64.wrap (a0_7)) 8192)) a0_0 a0_1 a0_2 a0_3 a0_4 a0_5 a0_6 a0_7 a0_8))
theorem flashlockref11_Make.mono_l : ∀ k, (∀ y0 y1 y2 y3 y4 y5 y6 y7 y8 y9 y10, LeO (flashlockref11_Make.j0 k y0 y1 y2 y3 y4 y5 y6 y7 y8 y9 y10) (flashlockref11_Make.j0 (k + 1) y0 y1 y2 y3 y4 y5 y6 y7 y8 y9 y10))
  | 0 => fun _ _ _ _ _ _ _ _ _ _ _ r h => by simp [flashlockref11_Make.j0] at h
  | k + 1 => by
    have ih0 := flashlockref11_Make.mono_l k
    · intro y0 y1 y2 y3 y4 y5 y6 y7 y8 y9 y10
      unfold flashlockref11_Make.j0
      repeat' first
      | (with_reducible exact ih0 _ _ _ _ _ _ _ _ _ _ _)
      | (with_reducible exact flashlockref09_PutNum.mono _ _ _)
      | (with_reducible exact flashlockref11_Low.mono _ _ _)
      | (with_reducible exact flashlockref11_Sum.mono _ _)
      | (with_reducible exact LeO.refl _)
      | (with_reducible exact LeO.none _)
      | (with_reducible refine LeO.ite ?_ ?_)
      | (with_reducible refine LeO.bind ?_ (fun _ => ?_))
      | exact ih0 _ _ _ _ _ _ _ _ _ _ _
      | exact flashlockref09_PutNum.mono _ _ _
      | exact flashlockref11_Low.mono _ _ _
      | exact flashlockref11_Sum.mono _ _
      | exact LeO.none _
      | refine LeO.ite ?_ ?_
      | refine LeO.bind ?_ (fun _ => ?_)
theorem flashlockref11_Make.mono : ∀ a0 a1 a2 a3 a4 a5 a6 a7 a8 a9 k, LeO (flashlockref11_Make.f k a0 a1 a2 a3 a4 a5 a6 a7 a8 a9) (flashlockref11_Make.f (k + 1) a0 a1 a2 a3 a4 a5 a6 a7 a8 a9) := by
  intro a0 a1 a2 a3 a4 a5 a6 a7 a8 a9 k
  have ih0 := flashlockref11_Make.mono_l k
  unfold flashlockref11_Make.f
  repeat' first
      | (with_reducible exact ih0 _ _ _ _ _ _ _ _ _ _ _)
      | (with_reducible exact flashlockref09_PutNum.mono _ _ _)
      | (with_reducible exact flashlockref11_Low.mono _ _ _)
      | (with_reducible exact flashlockref11_Sum.mono _ _)
      | (with_reducible exact LeO.refl _)
      | (with_reducible exact LeO.none _)
      | (with_reducible refine LeO.ite ?_ ?_)
      | (with_reducible refine LeO.bind ?_ (fun _ => ?_))
      | exact ih0 _ _ _ _ _ _ _ _ _ _ _
      | exact flashlockref09_PutNum.mono _ _ _
      | exact flashlockref11_Low.mono _ _ _
      | exact flashlockref11_Sum.mono _ _
      | exact LeO.none _
      | refine LeO.ite ?_ ?_
      | refine LeO.bind ?_ (fun _ => ?_)
def flashlockref11_Make.T6 : Bool × List (List Nat × List Nat) := (true, [([], []), ([0], [0]), ([1], [1]), ([2], [2]), ([3], [3]), ([4], [4]), ([], []), ([6, 3], [6]), ([5, 7], [5, 7]), ([8], [8]), ([], []), ([10], [10]), ([11, 7], [11]), ([9, 12], [9, 12]), ([13, 12, 0, 1, 2, 3, 4, 5, 6, 7, 8, 9, 10, 11, 12, 13], [13])])
def flashlockref11_Make.B6 : List Nat := [0, 1, 3, 7, 15, 31, 0, 79, 255, 511, 0, 1024, 3279, 8191, 16383]
theorem flashlockref11_Make.tab6 : rtab .any (opsOf Try.f23 6) = flashlockref11_Make.T6 := by kernel_rfl
theorem flashlockref11_Make.bits6 : waitsOk flashlockref11_Make.T6.2 flashlockref11_Make.B6 = true := by kernel_rfl
def flashlockref11_Make.T7 : Bool × List (List Nat × List Nat) := (true, [([], []), ([0], [0]), ([1], [1]), ([2], [2]), ([], []), ([4], [4]), ([5], [5]), ([6, 3], [6]), ([3, 7], [3, 7]), ([8, 7, 0, 1, 2, 3, 4, 5, 6, 7, 8], [8])])
def flashlockref11_Make.B7 : List Nat := [0, 1, 3, 7, 0, 16, 48, 127, 255, 511]
theorem flashlockref11_Make.tab7 : rtab .any (opsOf Try.f23 7) = flashlockref11_Make.T7 := by kernel_rfl
theorem flashlockref11_Make.bits7 : waitsOk flashlockref11_Make.T7.2 flashlockref11_Make.B7 = true := by kernel_rfl
set_option maxHeartbeats 8000000 in
set_option maxRecDepth 100000 in
theorem flashlockref11_Make.calls (k : Nat) (a0_0 : Int) (a0_1 : Int) (a0_2 : Int) (a0_3 : Int) (a0_4 : Int) (a0_5 : Int) (a0_6 : Int) (a0_7 : Int) (a0_8 : Bool) (a1 : ByteArray) (r : ByteArray) (w : World) (h : flashlockref11_Make.f k a0_0 a0_1 a0_2 a0_3 a0_4 a0_5 a0_6 a0_7 a0_8 a1 = some r) :
    Calls Try.prog 23 #[.agg #[.int .u64 a0_0, .int .u64 a0_1, .int .u64 a0_2, .int .u64 a0_3, .int .i64 a0_4, .int .i64 a0_5, .int .i64 a0_6, .int .i64 a0_7, .bool a0_8], .string a1] w fun e w' => e = .returned (.string r) ∧ Below w.heap.size w w' := by
  have hu42 := Try.underlying42
  have HB := Aside0.mk (Below.refl w.heap.size w)
  have H : (if (a1.size : Int) > 65515 then (some (⟨#[]⟩ : ByteArray)) else (if a0_8 = true then (flashlockref11_Make.j0 k a1 (wrap64 ((wrap64 (Int.tmod (IntKind.u64.wrap (a0_7)) 8192)) + 8192)) a0_0 a0_1 a0_2 a0_3 a0_4 a0_5 a0_6 a0_7 a0_8) else (flashlockref11_Make.j0 k a1 (wrap64 (Int.tmod (IntKind.u64.wrap (a0_7)) 8192)) a0_0 a0_1 a0_2 a0_3 a0_4 a0_5 a0_6 a0_7 a0_8))) = some r := h
  clear h
  by_cases c3 : (a1.size : Int) > 65515
  · rw [if_pos c3] at H
    have c3b0 : decide (65515 < (a1.size : Int)) = true := decide_eq_true c3
    have c3b1 : decide (65515 < a1.size) = true := decide_eq_true (by omega)
    clear c3
    obtain rfl := Option.some.inj H
    go_enter Try.func23, Try.ntmps23
    go_wp2_with (first | ((with_reducible refine gate_dst (N := 2) rfl ?_); refine box_event ?hg (N := 2) ?hd (cs := #[.int .u64 a0_0, .int .u64 a0_1, .int .u64 a0_2, .int .u64 a0_3, .int .i64 a0_4, .int .i64 a0_5, .int .i64 a0_6, .int .i64 a0_7, .bool a0_8]) (t := 42) ?hr ?_; (case hd => rfl); (case hg => rfl); (case hr => first | (go_simp; done) | (go_simp; rfl)); intro gb194 hg w4 hbox hb; have n0_ := Aside0.mk (below_step (by repeat (first | (with_reducible first | exact HB.out | apply below_alloc | apply pw_below_drewN | apply below_drew1) | exact HB.out)) hb); have n1_ := Aside0.mk (hbox); have n2_ := Aside0.mk ((by rw [hg]; exact (below_size (by repeat (first | (with_reducible first | exact HB.out | apply below_alloc | apply pw_below_drewN | apply below_drew1) | exact HB.out))) : w.heap.size ≤ gb194)); have n3_ := Aside0.mk ((by rw [hg]; exact (below_size (by repeat (first | (with_reducible first | exact HB.out | apply below_alloc | apply pw_below_drewN | apply below_drew1) | exact HB.out))) : w.heap.size ≤ gb194)); clear HB; have HB := n0_; have BK194 := n1_; have GW194 := n2_; have GE194 := n3_; clear n0_ n1_ n2_ n3_; clear hb hbox hg))
    go_ret
    exact ⟨by first | rfl | (simp [errW_none, errW_some] <;> rfl) | (simp [*, errW_none, errW_some] <;> rfl), by repeat (first | (with_reducible first | exact HB.out | apply below_alloc | apply pw_below_drewN | apply below_drew1 | refine below_set ?_ GE194.out) | exact HB.out)⟩
  · rw [if_neg c3] at H
    have c3b0 : decide (65515 < (a1.size : Int)) = false := decide_eq_false c3
    have c3b1 : decide (65515 < a1.size) = false := decide_eq_false (by omega)
    clear c3
    have HC5 := Aside0.mk H
    clear H
    go_enter Try.func23, Try.ntmps23
    go_upto_if 17 with (first | ((with_reducible refine gate_dst (N := 2) rfl ?_); refine box_event ?hg (N := 2) ?hd (cs := #[.int .u64 a0_0, .int .u64 a0_1, .int .u64 a0_2, .int .u64 a0_3, .int .i64 a0_4, .int .i64 a0_5, .int .i64 a0_6, .int .i64 a0_7, .bool a0_8]) (t := 42) ?hr ?_; (case hd => rfl); (case hg => rfl); (case hr => first | (go_simp; done) | (go_simp; rfl)); intro gb194 hg w6 hbox hb; have n0_ := Aside0.mk (below_step (by repeat (first | (with_reducible first | exact HB.out | apply below_alloc | apply pw_below_drewN | apply below_drew1) | exact HB.out)) hb); have n1_ := Aside0.mk (hbox); have n2_ := Aside0.mk ((by rw [hg]; exact (below_size (by repeat (first | (with_reducible first | exact HB.out | apply below_alloc | apply pw_below_drewN | apply below_drew1) | exact HB.out))) : w.heap.size ≤ gb194)); have n3_ := Aside0.mk ((by rw [hg]; exact (below_size (by repeat (first | (with_reducible first | exact HB.out | apply below_alloc | apply pw_below_drewN | apply below_drew1) | exact HB.out))) : w.heap.size ≤ gb194)); clear HB; have HB := n0_; have BK194 := n1_; have GW194 := n2_; have GE194 := n3_; clear n0_ n1_ n2_ n3_; clear hb hbox hg; have hcz7_0 : w6.cell? ⟨gb194, 0, none⟩ = some (.int .u64 a0_0) := (blk_cell BK194.out 0).trans rfl; have hcz7_1 : w6.cell? ⟨gb194, 1, none⟩ = some (.int .u64 a0_1) := (blk_cell BK194.out 1).trans rfl; have hcz7_2 : w6.cell? ⟨gb194, 2, none⟩ = some (.int .u64 a0_2) := (blk_cell BK194.out 2).trans rfl; have hcz7_3 : w6.cell? ⟨gb194, 3, none⟩ = some (.int .u64 a0_3) := (blk_cell BK194.out 3).trans rfl; have hcz7_4 : w6.cell? ⟨gb194, 4, none⟩ = some (.int .i64 a0_4) := (blk_cell BK194.out 4).trans rfl; have hcz7_5 : w6.cell? ⟨gb194, 5, none⟩ = some (.int .i64 a0_5) := (blk_cell BK194.out 5).trans rfl; have hcz7_6 : w6.cell? ⟨gb194, 6, none⟩ = some (.int .i64 a0_6) := (blk_cell BK194.out 6).trans rfl; have hcz7_7 : w6.cell? ⟨gb194, 7, none⟩ = some (.int .i64 a0_7) := (blk_cell BK194.out 7).trans rfl; have hcz7_8 : w6.cell? ⟨gb194, 8, none⟩ = some (.bool a0_8) := (blk_cell BK194.out 8).trans rfl; have hfz7_0 := blk_frozen BK194.out 0; have hfz7_1 := blk_frozen BK194.out 1; have hfz7_2 := blk_frozen BK194.out 2; have hfz7_3 := blk_frozen BK194.out 3; have hfz7_4 := blk_frozen BK194.out 4; have hfz7_5 := blk_frozen BK194.out 5; have hfz7_6 := blk_frozen BK194.out 6; have hfz7_7 := blk_frozen BK194.out 7; have hfz7_8 := blk_frozen BK194.out 8))
    (try simp only [Act.put, List.setIfInBounds_toArray, List.set_cons_zero, List.set_cons_succ])
    go_cut [5] (fun v5 wc => ∃ (kq : Nat) (x5_4 : Int), v5 = .int .i64 x5_4 ∧ Aside0 (flashlockref11_Make.j0 kq a1 x5_4 a0_0 a0_1 a0_2 a0_3 a0_4 a0_5 a0_6 a0_7 a0_8 = some r) ∧ Aside0 (kq ≤ k) ∧ Aside0 (wc.heap[gb194]? = some (.cells #[.int .u64 a0_0, .int .u64 a0_1, .int .u64 a0_2, .int .u64 a0_3, .int .i64 a0_4, .int .i64 a0_5, .int .i64 a0_6, .int .i64 a0_7, .bool a0_8] 42 (0, 0))) ∧ Aside0 (Below w.heap.size w wc))
    case first =>
      have H := HC5.out
      clear HC5
      by_cases c8 : a0_8 = true
      · subst c8
        have H1 : (flashlockref11_Make.j0 k a1 (wrap64 ((wrap64 (Int.tmod (IntKind.u64.wrap (a0_7)) 8192)) + 8192)) a0_0 a0_1 a0_2 a0_3 a0_4 a0_5 a0_6 a0_7 true) = some r := by rw [if_pos rfl] at H; exact H
        clear H
        have H := H1
        clear H1
        have H' := Aside0.mk H
        clear H
        go_wp2
        go_meet
        case rel => exact ⟨_, (wrap64 ((wrap64 (Int.tmod (IntKind.u64.wrap (a0_7)) 8192)) + 8192)), (by first | rfl | (simp; done) | (simp [*]; done)), H', ⟨by first | omega | exact Nat.le_refl _⟩, ⟨by (with_reducible repeat (first | refine blk_drewN ?_ _ | refine blk_drew ?_ | refine blk_alloc ?_ _)); exact BK194.out⟩, ⟨by repeat (first | (with_reducible first | exact HB.out | apply below_alloc | apply pw_below_drewN | apply below_drew1 | refine below_set ?_ GE194.out) | exact HB.out)⟩⟩
      · replace c8 := Bool.eq_false_iff.mpr c8
        subst c8
        have H1 : (flashlockref11_Make.j0 k a1 (wrap64 (Int.tmod (IntKind.u64.wrap (a0_7)) 8192)) a0_0 a0_1 a0_2 a0_3 a0_4 a0_5 a0_6 a0_7 false) = some r := by rw [if_neg (show ¬ (false = true) by decide)] at H; exact H
        clear H
        have H := H1
        clear H1
        have H' := Aside0.mk H
        clear H
        go_wp2
        go_meet
        case rel => exact ⟨_, (wrap64 (Int.tmod (IntKind.u64.wrap (a0_7)) 8192)), (by first | rfl | (simp; done) | (simp [*]; done)), H', ⟨by first | omega | exact Nat.le_refl _⟩, ⟨by (with_reducible repeat (first | refine blk_drewN ?_ _ | refine blk_drew ?_ | refine blk_alloc ?_ _)); exact BK194.out⟩, ⟨by repeat (first | (with_reducible first | exact HB.out | apply below_alloc | apply pw_below_drewN | apply below_drew1 | refine below_set ?_ GE194.out) | exact HB.out)⟩⟩
    case rest =>
      clear HC5
      try clear c2
      try clear p2
      try clear c3
      try clear c3b0
      try clear c3b1
      try clear p6
      try clear c8
      try clear hcz7_0
      try clear hcz7_1
      try clear hcz7_2
      try clear hcz7_3
      try clear hcz7_4
      try clear hcz7_5
      try clear hcz7_6
      try clear hcz7_7
      try clear hcz7_8
      try clear hfz7_0
      try clear hfz7_1
      try clear hfz7_2
      try clear hfz7_3
      try clear hfz7_4
      try clear hfz7_5
      try clear hfz7_6
      try clear hfz7_7
      try clear hfz7_8
      obtain ⟨kq, x5_4, rfl, HA, HJ4, BK194, HB⟩ := hcut
      cases kq with
      | zero => exact absurd HA.out (by simp [flashlockref11_Make.j0])
      | succ kj4 =>
        have H := HA.out
        clear HA
        simp only [flashlockref11_Make.j0] at H
        replace H := Option.bind_eq_some_iff.mp H
        obtain ⟨t195, A90, H⟩ := H
        replace H : (if 2 + t195.size ≤ 9223372036854775807 then (if ((⟨#[69, 0]⟩ : ByteArray) ++ t195).size + 2 ≤ 9223372036854775807 then ((flashlockref11_Low.f kj4 x5_4 2).bind fun t196 => (if (((⟨#[69, 0]⟩ : ByteArray) ++ t195) ++ (⟨#[0, 0]⟩ : ByteArray)).size + t196.size ≤ 9223372036854775807 then (if ((((⟨#[69, 0]⟩ : ByteArray) ++ t195) ++ (⟨#[0, 0]⟩ : ByteArray)) ++ t196).size + 1 ≤ 9223372036854775807 then ((flashlockref11_Low.f kj4 a0_4 1).bind fun t197 => (if (((((⟨#[69, 0]⟩ : ByteArray) ++ t195) ++ (⟨#[0, 0]⟩ : ByteArray)) ++ t196) ++ (⟨#[0]⟩ : ByteArray)).size + t197.size ≤ 9223372036854775807 then ((flashlockref09_PutNum.f kj4 a0_1 4).bind fun t198 => ((flashlockref09_PutNum.f kj4 a0_3 4).bind fun t199 => (if t198.size + t199.size ≤ 9223372036854775807 then (if ((((((⟨#[69, 0]⟩ : ByteArray) ++ t195) ++ (⟨#[0, 0]⟩ : ByteArray)) ++ t196) ++ (⟨#[0]⟩ : ByteArray)) ++ t197).size + (t198 ++ t199).size ≤ 9223372036854775807 then ((flashlockref11_Sum.f kj4 (((((((⟨#[69, 0]⟩ : ByteArray) ++ t195) ++ (⟨#[0, 0]⟩ : ByteArray)) ++ t196) ++ (⟨#[0]⟩ : ByteArray)) ++ t197) ++ (t198 ++ t199))).bind fun t200 => ((flashlockref11_Low.f kj4 t200 2).bind fun t201 => (if ((((((⟨#[69, 0]⟩ : ByteArray) ++ t195) ++ (⟨#[0, 0]⟩ : ByteArray)) ++ t196) ++ (⟨#[0]⟩ : ByteArray)) ++ t197).size + t201.size ≤ 9223372036854775807 then (if (((((((⟨#[69, 0]⟩ : ByteArray) ++ t195) ++ (⟨#[0, 0]⟩ : ByteArray)) ++ t196) ++ (⟨#[0]⟩ : ByteArray)) ++ t197) ++ t201).size + (t198 ++ t199).size ≤ 9223372036854775807 then (if ((((((((⟨#[69, 0]⟩ : ByteArray) ++ t195) ++ (⟨#[0, 0]⟩ : ByteArray)) ++ t196) ++ (⟨#[0]⟩ : ByteArray)) ++ t197) ++ t201) ++ (t198 ++ t199)).size + a1.size ≤ 9223372036854775807 then (some (((((((((⟨#[69, 0]⟩ : ByteArray) ++ t195) ++ (⟨#[0, 0]⟩ : ByteArray)) ++ t196) ++ (⟨#[0]⟩ : ByteArray)) ++ t197) ++ t201) ++ (t198 ++ t199)) ++ a1)) else (none)) else (none)) else (none)))) else (none)) else (none)))) else (none))) else (none)) else (none))) else (none)) else (none)) = some r := H
        have A9 := Aside0.mk A90
        clear A90
        by_cases c10 : 2 + t195.size ≤ 9223372036854775807
        · rw [if_pos c10] at H
          have c10b0 := eq_true c10
          have c10b1 : decide (2 + t195.size ≤ 9223372036854775807) = true := decide_eq_true c10
          try have c10b2 : (9223372036854775807 < 2 + t195.size) = False := eq_false (Nat.not_lt.2 c10)
          try have c10b9 := c10b2
          try simp only [ByteArray.size_append', show (⟨#[69, 0]⟩ : ByteArray).size = 2 from rfl, show (⟨#[0, 0]⟩ : ByteArray).size = 2 from rfl, show (⟨#[0]⟩ : ByteArray).size = 1 from rfl] at c10b9
          by_cases c11 : ((⟨#[69, 0]⟩ : ByteArray) ++ t195).size + 2 ≤ 9223372036854775807
          · rw [if_pos c11] at H
            have c11b0 := eq_true c11
            have c11b1 : decide (((⟨#[69, 0]⟩ : ByteArray) ++ t195).size + 2 ≤ 9223372036854775807) = true := decide_eq_true c11
            try have c11b2 : (9223372036854775807 < ((⟨#[69, 0]⟩ : ByteArray) ++ t195).size + 2) = False := eq_false (Nat.not_lt.2 c11)
            try have c11b9 := c11b2
            try simp only [ByteArray.size_append', show (⟨#[69, 0]⟩ : ByteArray).size = 2 from rfl, show (⟨#[0, 0]⟩ : ByteArray).size = 2 from rfl, show (⟨#[0]⟩ : ByteArray).size = 1 from rfl] at c11b9
            replace H := Option.bind_eq_some_iff.mp H
            obtain ⟨t196, A120, H⟩ := H
            replace H : (if (((⟨#[69, 0]⟩ : ByteArray) ++ t195) ++ (⟨#[0, 0]⟩ : ByteArray)).size + t196.size ≤ 9223372036854775807 then (if ((((⟨#[69, 0]⟩ : ByteArray) ++ t195) ++ (⟨#[0, 0]⟩ : ByteArray)) ++ t196).size + 1 ≤ 9223372036854775807 then ((flashlockref11_Low.f kj4 a0_4 1).bind fun t197 => (if (((((⟨#[69, 0]⟩ : ByteArray) ++ t195) ++ (⟨#[0, 0]⟩ : ByteArray)) ++ t196) ++ (⟨#[0]⟩ : ByteArray)).size + t197.size ≤ 9223372036854775807 then ((flashlockref09_PutNum.f kj4 a0_1 4).bind fun t198 => ((flashlockref09_PutNum.f kj4 a0_3 4).bind fun t199 => (if t198.size + t199.size ≤ 9223372036854775807 then (if ((((((⟨#[69, 0]⟩ : ByteArray) ++ t195) ++ (⟨#[0, 0]⟩ : ByteArray)) ++ t196) ++ (⟨#[0]⟩ : ByteArray)) ++ t197).size + (t198 ++ t199).size ≤ 9223372036854775807 then ((flashlockref11_Sum.f kj4 (((((((⟨#[69, 0]⟩ : ByteArray) ++ t195) ++ (⟨#[0, 0]⟩ : ByteArray)) ++ t196) ++ (⟨#[0]⟩ : ByteArray)) ++ t197) ++ (t198 ++ t199))).bind fun t200 => ((flashlockref11_Low.f kj4 t200 2).bind fun t201 => (if ((((((⟨#[69, 0]⟩ : ByteArray) ++ t195) ++ (⟨#[0, 0]⟩ : ByteArray)) ++ t196) ++ (⟨#[0]⟩ : ByteArray)) ++ t197).size + t201.size ≤ 9223372036854775807 then (if (((((((⟨#[69, 0]⟩ : ByteArray) ++ t195) ++ (⟨#[0, 0]⟩ : ByteArray)) ++ t196) ++ (⟨#[0]⟩ : ByteArray)) ++ t197) ++ t201).size + (t198 ++ t199).size ≤ 9223372036854775807 then (if ((((((((⟨#[69, 0]⟩ : ByteArray) ++ t195) ++ (⟨#[0, 0]⟩ : ByteArray)) ++ t196) ++ (⟨#[0]⟩ : ByteArray)) ++ t197) ++ t201) ++ (t198 ++ t199)).size + a1.size ≤ 9223372036854775807 then (some (((((((((⟨#[69, 0]⟩ : ByteArray) ++ t195) ++ (⟨#[0, 0]⟩ : ByteArray)) ++ t196) ++ (⟨#[0]⟩ : ByteArray)) ++ t197) ++ t201) ++ (t198 ++ t199)) ++ a1)) else (none)) else (none)) else (none)))) else (none)) else (none)))) else (none))) else (none)) else (none)) = some r := H
            have A12 := Aside0.mk A120
            clear A120
            by_cases c13 : (((⟨#[69, 0]⟩ : ByteArray) ++ t195) ++ (⟨#[0, 0]⟩ : ByteArray)).size + t196.size ≤ 9223372036854775807
            · rw [if_pos c13] at H
              have c13b0 := eq_true c13
              have c13b1 : decide ((((⟨#[69, 0]⟩ : ByteArray) ++ t195) ++ (⟨#[0, 0]⟩ : ByteArray)).size + t196.size ≤ 9223372036854775807) = true := decide_eq_true c13
              try have c13b2 : (9223372036854775807 < (((⟨#[69, 0]⟩ : ByteArray) ++ t195) ++ (⟨#[0, 0]⟩ : ByteArray)).size + t196.size) = False := eq_false (Nat.not_lt.2 c13)
              try have c13b9 := c13b2
              try simp only [ByteArray.size_append', show (⟨#[69, 0]⟩ : ByteArray).size = 2 from rfl, show (⟨#[0, 0]⟩ : ByteArray).size = 2 from rfl, show (⟨#[0]⟩ : ByteArray).size = 1 from rfl] at c13b9
              by_cases c14 : ((((⟨#[69, 0]⟩ : ByteArray) ++ t195) ++ (⟨#[0, 0]⟩ : ByteArray)) ++ t196).size + 1 ≤ 9223372036854775807
              · rw [if_pos c14] at H
                have c14b0 := eq_true c14
                have c14b1 : decide (((((⟨#[69, 0]⟩ : ByteArray) ++ t195) ++ (⟨#[0, 0]⟩ : ByteArray)) ++ t196).size + 1 ≤ 9223372036854775807) = true := decide_eq_true c14
                try have c14b2 : (9223372036854775807 < ((((⟨#[69, 0]⟩ : ByteArray) ++ t195) ++ (⟨#[0, 0]⟩ : ByteArray)) ++ t196).size + 1) = False := eq_false (Nat.not_lt.2 c14)
                try have c14b9 := c14b2
                try simp only [ByteArray.size_append', show (⟨#[69, 0]⟩ : ByteArray).size = 2 from rfl, show (⟨#[0, 0]⟩ : ByteArray).size = 2 from rfl, show (⟨#[0]⟩ : ByteArray).size = 1 from rfl] at c14b9
                replace H := Option.bind_eq_some_iff.mp H
                obtain ⟨t197, A150, H⟩ := H
                replace H : (if (((((⟨#[69, 0]⟩ : ByteArray) ++ t195) ++ (⟨#[0, 0]⟩ : ByteArray)) ++ t196) ++ (⟨#[0]⟩ : ByteArray)).size + t197.size ≤ 9223372036854775807 then ((flashlockref09_PutNum.f kj4 a0_1 4).bind fun t198 => ((flashlockref09_PutNum.f kj4 a0_3 4).bind fun t199 => (if t198.size + t199.size ≤ 9223372036854775807 then (if ((((((⟨#[69, 0]⟩ : ByteArray) ++ t195) ++ (⟨#[0, 0]⟩ : ByteArray)) ++ t196) ++ (⟨#[0]⟩ : ByteArray)) ++ t197).size + (t198 ++ t199).size ≤ 9223372036854775807 then ((flashlockref11_Sum.f kj4 (((((((⟨#[69, 0]⟩ : ByteArray) ++ t195) ++ (⟨#[0, 0]⟩ : ByteArray)) ++ t196) ++ (⟨#[0]⟩ : ByteArray)) ++ t197) ++ (t198 ++ t199))).bind fun t200 => ((flashlockref11_Low.f kj4 t200 2).bind fun t201 => (if ((((((⟨#[69, 0]⟩ : ByteArray) ++ t195) ++ (⟨#[0, 0]⟩ : ByteArray)) ++ t196) ++ (⟨#[0]⟩ : ByteArray)) ++ t197).size + t201.size ≤ 9223372036854775807 then (if (((((((⟨#[69, 0]⟩ : ByteArray) ++ t195) ++ (⟨#[0, 0]⟩ : ByteArray)) ++ t196) ++ (⟨#[0]⟩ : ByteArray)) ++ t197) ++ t201).size + (t198 ++ t199).size ≤ 9223372036854775807 then (if ((((((((⟨#[69, 0]⟩ : ByteArray) ++ t195) ++ (⟨#[0, 0]⟩ : ByteArray)) ++ t196) ++ (⟨#[0]⟩ : ByteArray)) ++ t197) ++ t201) ++ (t198 ++ t199)).size + a1.size ≤ 9223372036854775807 then (some (((((((((⟨#[69, 0]⟩ : ByteArray) ++ t195) ++ (⟨#[0, 0]⟩ : ByteArray)) ++ t196) ++ (⟨#[0]⟩ : ByteArray)) ++ t197) ++ t201) ++ (t198 ++ t199)) ++ a1)) else (none)) else (none)) else (none)))) else (none)) else (none)))) else (none)) = some r := H
                have A15 := Aside0.mk A150
                clear A150
                by_cases c16 : (((((⟨#[69, 0]⟩ : ByteArray) ++ t195) ++ (⟨#[0, 0]⟩ : ByteArray)) ++ t196) ++ (⟨#[0]⟩ : ByteArray)).size + t197.size ≤ 9223372036854775807
                · rw [if_pos c16] at H
                  have c16b0 := eq_true c16
                  have c16b1 : decide ((((((⟨#[69, 0]⟩ : ByteArray) ++ t195) ++ (⟨#[0, 0]⟩ : ByteArray)) ++ t196) ++ (⟨#[0]⟩ : ByteArray)).size + t197.size ≤ 9223372036854775807) = true := decide_eq_true c16
                  try have c16b2 : (9223372036854775807 < (((((⟨#[69, 0]⟩ : ByteArray) ++ t195) ++ (⟨#[0, 0]⟩ : ByteArray)) ++ t196) ++ (⟨#[0]⟩ : ByteArray)).size + t197.size) = False := eq_false (Nat.not_lt.2 c16)
                  try have c16b9 := c16b2
                  try simp only [ByteArray.size_append', show (⟨#[69, 0]⟩ : ByteArray).size = 2 from rfl, show (⟨#[0, 0]⟩ : ByteArray).size = 2 from rfl, show (⟨#[0]⟩ : ByteArray).size = 1 from rfl] at c16b9
                  replace H := Option.bind_eq_some_iff.mp H
                  obtain ⟨t198, A170, H⟩ := H
                  replace H : ((flashlockref09_PutNum.f kj4 a0_3 4).bind fun t199 => (if t198.size + t199.size ≤ 9223372036854775807 then (if ((((((⟨#[69, 0]⟩ : ByteArray) ++ t195) ++ (⟨#[0, 0]⟩ : ByteArray)) ++ t196) ++ (⟨#[0]⟩ : ByteArray)) ++ t197).size + (t198 ++ t199).size ≤ 9223372036854775807 then ((flashlockref11_Sum.f kj4 (((((((⟨#[69, 0]⟩ : ByteArray) ++ t195) ++ (⟨#[0, 0]⟩ : ByteArray)) ++ t196) ++ (⟨#[0]⟩ : ByteArray)) ++ t197) ++ (t198 ++ t199))).bind fun t200 => ((flashlockref11_Low.f kj4 t200 2).bind fun t201 => (if ((((((⟨#[69, 0]⟩ : ByteArray) ++ t195) ++ (⟨#[0, 0]⟩ : ByteArray)) ++ t196) ++ (⟨#[0]⟩ : ByteArray)) ++ t197).size + t201.size ≤ 9223372036854775807 then (if (((((((⟨#[69, 0]⟩ : ByteArray) ++ t195) ++ (⟨#[0, 0]⟩ : ByteArray)) ++ t196) ++ (⟨#[0]⟩ : ByteArray)) ++ t197) ++ t201).size + (t198 ++ t199).size ≤ 9223372036854775807 then (if ((((((((⟨#[69, 0]⟩ : ByteArray) ++ t195) ++ (⟨#[0, 0]⟩ : ByteArray)) ++ t196) ++ (⟨#[0]⟩ : ByteArray)) ++ t197) ++ t201) ++ (t198 ++ t199)).size + a1.size ≤ 9223372036854775807 then (some (((((((((⟨#[69, 0]⟩ : ByteArray) ++ t195) ++ (⟨#[0, 0]⟩ : ByteArray)) ++ t196) ++ (⟨#[0]⟩ : ByteArray)) ++ t197) ++ t201) ++ (t198 ++ t199)) ++ a1)) else (none)) else (none)) else (none)))) else (none)) else (none))) = some r := H
                  have A17 := Aside0.mk A170
                  clear A170
                  replace H := Option.bind_eq_some_iff.mp H
                  obtain ⟨t199, A180, H⟩ := H
                  replace H : (if t198.size + t199.size ≤ 9223372036854775807 then (if ((((((⟨#[69, 0]⟩ : ByteArray) ++ t195) ++ (⟨#[0, 0]⟩ : ByteArray)) ++ t196) ++ (⟨#[0]⟩ : ByteArray)) ++ t197).size + (t198 ++ t199).size ≤ 9223372036854775807 then ((flashlockref11_Sum.f kj4 (((((((⟨#[69, 0]⟩ : ByteArray) ++ t195) ++ (⟨#[0, 0]⟩ : ByteArray)) ++ t196) ++ (⟨#[0]⟩ : ByteArray)) ++ t197) ++ (t198 ++ t199))).bind fun t200 => ((flashlockref11_Low.f kj4 t200 2).bind fun t201 => (if ((((((⟨#[69, 0]⟩ : ByteArray) ++ t195) ++ (⟨#[0, 0]⟩ : ByteArray)) ++ t196) ++ (⟨#[0]⟩ : ByteArray)) ++ t197).size + t201.size ≤ 9223372036854775807 then (if (((((((⟨#[69, 0]⟩ : ByteArray) ++ t195) ++ (⟨#[0, 0]⟩ : ByteArray)) ++ t196) ++ (⟨#[0]⟩ : ByteArray)) ++ t197) ++ t201).size + (t198 ++ t199).size ≤ 9223372036854775807 then (if ((((((((⟨#[69, 0]⟩ : ByteArray) ++ t195) ++ (⟨#[0, 0]⟩ : ByteArray)) ++ t196) ++ (⟨#[0]⟩ : ByteArray)) ++ t197) ++ t201) ++ (t198 ++ t199)).size + a1.size ≤ 9223372036854775807 then (some (((((((((⟨#[69, 0]⟩ : ByteArray) ++ t195) ++ (⟨#[0, 0]⟩ : ByteArray)) ++ t196) ++ (⟨#[0]⟩ : ByteArray)) ++ t197) ++ t201) ++ (t198 ++ t199)) ++ a1)) else (none)) else (none)) else (none)))) else (none)) else (none)) = some r := H
                  have A18 := Aside0.mk A180
                  clear A180
                  by_cases c19 : t198.size + t199.size ≤ 9223372036854775807
                  · rw [if_pos c19] at H
                    have c19b0 := eq_true c19
                    have c19b1 : decide (t198.size + t199.size ≤ 9223372036854775807) = true := decide_eq_true c19
                    try have c19b2 : (9223372036854775807 < t198.size + t199.size) = False := eq_false (Nat.not_lt.2 c19)
                    try have c19b9 := c19b2
                    try simp only [ByteArray.size_append', show (⟨#[69, 0]⟩ : ByteArray).size = 2 from rfl, show (⟨#[0, 0]⟩ : ByteArray).size = 2 from rfl, show (⟨#[0]⟩ : ByteArray).size = 1 from rfl] at c19b9
                    by_cases c20 : ((((((⟨#[69, 0]⟩ : ByteArray) ++ t195) ++ (⟨#[0, 0]⟩ : ByteArray)) ++ t196) ++ (⟨#[0]⟩ : ByteArray)) ++ t197).size + (t198 ++ t199).size ≤ 9223372036854775807
                    · rw [if_pos c20] at H
                      have c20b0 := eq_true c20
                      have c20b1 : decide (((((((⟨#[69, 0]⟩ : ByteArray) ++ t195) ++ (⟨#[0, 0]⟩ : ByteArray)) ++ t196) ++ (⟨#[0]⟩ : ByteArray)) ++ t197).size + (t198 ++ t199).size ≤ 9223372036854775807) = true := decide_eq_true c20
                      try have c20b2 : (9223372036854775807 < ((((((⟨#[69, 0]⟩ : ByteArray) ++ t195) ++ (⟨#[0, 0]⟩ : ByteArray)) ++ t196) ++ (⟨#[0]⟩ : ByteArray)) ++ t197).size + (t198 ++ t199).size) = False := eq_false (Nat.not_lt.2 c20)
                      try have c20b9 := c20b2
                      try simp only [ByteArray.size_append', show (⟨#[69, 0]⟩ : ByteArray).size = 2 from rfl, show (⟨#[0, 0]⟩ : ByteArray).size = 2 from rfl, show (⟨#[0]⟩ : ByteArray).size = 1 from rfl] at c20b9
                      replace H := Option.bind_eq_some_iff.mp H
                      obtain ⟨t200, A210, H⟩ := H
                      replace H : ((flashlockref11_Low.f kj4 t200 2).bind fun t201 => (if ((((((⟨#[69, 0]⟩ : ByteArray) ++ t195) ++ (⟨#[0, 0]⟩ : ByteArray)) ++ t196) ++ (⟨#[0]⟩ : ByteArray)) ++ t197).size + t201.size ≤ 9223372036854775807 then (if (((((((⟨#[69, 0]⟩ : ByteArray) ++ t195) ++ (⟨#[0, 0]⟩ : ByteArray)) ++ t196) ++ (⟨#[0]⟩ : ByteArray)) ++ t197) ++ t201).size + (t198 ++ t199).size ≤ 9223372036854775807 then (if ((((((((⟨#[69, 0]⟩ : ByteArray) ++ t195) ++ (⟨#[0, 0]⟩ : ByteArray)) ++ t196) ++ (⟨#[0]⟩ : ByteArray)) ++ t197) ++ t201) ++ (t198 ++ t199)).size + a1.size ≤ 9223372036854775807 then (some (((((((((⟨#[69, 0]⟩ : ByteArray) ++ t195) ++ (⟨#[0, 0]⟩ : ByteArray)) ++ t196) ++ (⟨#[0]⟩ : ByteArray)) ++ t197) ++ t201) ++ (t198 ++ t199)) ++ a1)) else (none)) else (none)) else (none))) = some r := H
                      have A21 := Aside0.mk A210
                      clear A210
                      replace H := Option.bind_eq_some_iff.mp H
                      obtain ⟨t201, A220, H⟩ := H
                      replace H : (if ((((((⟨#[69, 0]⟩ : ByteArray) ++ t195) ++ (⟨#[0, 0]⟩ : ByteArray)) ++ t196) ++ (⟨#[0]⟩ : ByteArray)) ++ t197).size + t201.size ≤ 9223372036854775807 then (if (((((((⟨#[69, 0]⟩ : ByteArray) ++ t195) ++ (⟨#[0, 0]⟩ : ByteArray)) ++ t196) ++ (⟨#[0]⟩ : ByteArray)) ++ t197) ++ t201).size + (t198 ++ t199).size ≤ 9223372036854775807 then (if ((((((((⟨#[69, 0]⟩ : ByteArray) ++ t195) ++ (⟨#[0, 0]⟩ : ByteArray)) ++ t196) ++ (⟨#[0]⟩ : ByteArray)) ++ t197) ++ t201) ++ (t198 ++ t199)).size + a1.size ≤ 9223372036854775807 then (some (((((((((⟨#[69, 0]⟩ : ByteArray) ++ t195) ++ (⟨#[0, 0]⟩ : ByteArray)) ++ t196) ++ (⟨#[0]⟩ : ByteArray)) ++ t197) ++ t201) ++ (t198 ++ t199)) ++ a1)) else (none)) else (none)) else (none)) = some r := H
                      have A22 := Aside0.mk A220
                      clear A220
                      by_cases c23 : ((((((⟨#[69, 0]⟩ : ByteArray) ++ t195) ++ (⟨#[0, 0]⟩ : ByteArray)) ++ t196) ++ (⟨#[0]⟩ : ByteArray)) ++ t197).size + t201.size ≤ 9223372036854775807
                      · rw [if_pos c23] at H
                        have c23b0 := eq_true c23
                        have c23b1 : decide (((((((⟨#[69, 0]⟩ : ByteArray) ++ t195) ++ (⟨#[0, 0]⟩ : ByteArray)) ++ t196) ++ (⟨#[0]⟩ : ByteArray)) ++ t197).size + t201.size ≤ 9223372036854775807) = true := decide_eq_true c23
                        try have c23b2 : (9223372036854775807 < ((((((⟨#[69, 0]⟩ : ByteArray) ++ t195) ++ (⟨#[0, 0]⟩ : ByteArray)) ++ t196) ++ (⟨#[0]⟩ : ByteArray)) ++ t197).size + t201.size) = False := eq_false (Nat.not_lt.2 c23)
                        try have c23b9 := c23b2
                        try simp only [ByteArray.size_append', show (⟨#[69, 0]⟩ : ByteArray).size = 2 from rfl, show (⟨#[0, 0]⟩ : ByteArray).size = 2 from rfl, show (⟨#[0]⟩ : ByteArray).size = 1 from rfl] at c23b9
                        by_cases c24 : (((((((⟨#[69, 0]⟩ : ByteArray) ++ t195) ++ (⟨#[0, 0]⟩ : ByteArray)) ++ t196) ++ (⟨#[0]⟩ : ByteArray)) ++ t197) ++ t201).size + (t198 ++ t199).size ≤ 9223372036854775807
                        · rw [if_pos c24] at H
                          have c24b0 := eq_true c24
                          have c24b1 : decide ((((((((⟨#[69, 0]⟩ : ByteArray) ++ t195) ++ (⟨#[0, 0]⟩ : ByteArray)) ++ t196) ++ (⟨#[0]⟩ : ByteArray)) ++ t197) ++ t201).size + (t198 ++ t199).size ≤ 9223372036854775807) = true := decide_eq_true c24
                          try have c24b2 : (9223372036854775807 < (((((((⟨#[69, 0]⟩ : ByteArray) ++ t195) ++ (⟨#[0, 0]⟩ : ByteArray)) ++ t196) ++ (⟨#[0]⟩ : ByteArray)) ++ t197) ++ t201).size + (t198 ++ t199).size) = False := eq_false (Nat.not_lt.2 c24)
                          try have c24b9 := c24b2
                          try simp only [ByteArray.size_append', show (⟨#[69, 0]⟩ : ByteArray).size = 2 from rfl, show (⟨#[0, 0]⟩ : ByteArray).size = 2 from rfl, show (⟨#[0]⟩ : ByteArray).size = 1 from rfl] at c24b9
                          by_cases c25 : ((((((((⟨#[69, 0]⟩ : ByteArray) ++ t195) ++ (⟨#[0, 0]⟩ : ByteArray)) ++ t196) ++ (⟨#[0]⟩ : ByteArray)) ++ t197) ++ t201) ++ (t198 ++ t199)).size + a1.size ≤ 9223372036854775807
                          · rw [if_pos c25] at H
                            have c25b0 := eq_true c25
                            have c25b1 : decide (((((((((⟨#[69, 0]⟩ : ByteArray) ++ t195) ++ (⟨#[0, 0]⟩ : ByteArray)) ++ t196) ++ (⟨#[0]⟩ : ByteArray)) ++ t197) ++ t201) ++ (t198 ++ t199)).size + a1.size ≤ 9223372036854775807) = true := decide_eq_true c25
                            try have c25b2 : (9223372036854775807 < ((((((((⟨#[69, 0]⟩ : ByteArray) ++ t195) ++ (⟨#[0, 0]⟩ : ByteArray)) ++ t196) ++ (⟨#[0]⟩ : ByteArray)) ++ t197) ++ t201) ++ (t198 ++ t199)).size + a1.size) = False := eq_false (Nat.not_lt.2 c25)
                            try have c25b9 := c25b2
                            try simp only [ByteArray.size_append', show (⟨#[69, 0]⟩ : ByteArray).size = 2 from rfl, show (⟨#[0, 0]⟩ : ByteArray).size = 2 from rfl, show (⟨#[0]⟩ : ByteArray).size = 1 from rfl] at c25b9
                            obtain rfl := Option.some.inj H
                            try go_wp2
                            have n0_ := Aside0.mk (blk_drew BK194.out)
                            have n1_ := Aside0.mk (below_drew1 HB.out)
                            clear BK194
                            clear HB
                            have BK194 := n0_
                            have HB := n1_
                            clear n0_ n1_
                            refine start_ (n := 15) (S := fun w' => w'.cell? ⟨gb194, 0, none⟩ = some (.int .u64 a0_0) ∧ w'.cell? ⟨gb194, 1, none⟩ = some (.int .u64 a0_1) ∧ w'.cell? ⟨gb194, 2, none⟩ = some (.int .u64 a0_2) ∧ w'.cell? ⟨gb194, 3, none⟩ = some (.int .u64 a0_3) ∧ w'.cell? ⟨gb194, 4, none⟩ = some (.int .i64 a0_4) ∧ w'.cell? ⟨gb194, 5, none⟩ = some (.int .i64 a0_5) ∧ w'.cell? ⟨gb194, 6, none⟩ = some (.int .i64 a0_6) ∧ w'.cell? ⟨gb194, 7, none⟩ = some (.int .i64 a0_7) ∧ w'.cell? ⟨gb194, 8, none⟩ = some (.bool a0_8)) (ds := []) #[false, false, false, false, false, false, false, false, false, false, false, false, false, false, false] (by kernel_rfl) rfl rfl ⟨(blk_cell BK194.out 0).trans rfl, (blk_cell BK194.out 1).trans rfl, (blk_cell BK194.out 2).trans rfl, (blk_cell BK194.out 3).trans rfl, (blk_cell BK194.out 4).trans rfl, (blk_cell BK194.out 5).trans rfl, (blk_cell BK194.out 6).trans rfl, (blk_cell BK194.out 7).trans rfl, (blk_cell BK194.out 8).trans rfl⟩ (fun hHeld => ?_); refine with_tabW flashlockref11_Make.tab6 flashlockref11_Make.bits6 (fun HT_ HW_ => ?_)
                            generalize wc.drew = w26 at BK194 HB hHeld ⊢
                            refine pure_ (i := 0) (N := some 20) (v := ?_) (a' := ?_) #[true, false, false, false, false, false, false, false, false, false, false, false, false, false, false] rfl rfl (any_of HT_.out (by kernel_rfl)) (fun _ _ _ h => h) (Or.inl ⟨by rfl, ?_⟩) ?_ ?_
                            rotate_left
                            · intro w'
                              go_simp
                              with_reducible rfl
                            rotate_left
                            · simp only [Act.put, List.setIfInBounds_toArray, List.set_cons_zero, List.set_cons_succ, i64_w, i32_w]
                              rfl
                            refine pure_ (i := 1) (N := some 21) (v := ?_) (a' := ?_) #[true, true, false, false, false, false, false, false, false, false, false, false, false, false, false] rfl rfl (any_of HT_.out (by kernel_rfl)) (fun _ _ _ h => h) (Or.inl ⟨by rfl, ?_⟩) ?_ ?_
                            rotate_left
                            · intro w'
                              go_simp
                              with_reducible rfl
                            rotate_left
                            · simp only [Act.put, List.setIfInBounds_toArray, List.set_cons_zero, List.set_cons_succ, i64_w, i32_w]
                              rfl
                            refine pure_ (i := 2) (N := some 22) (v := ?_) (a' := ?_) #[true, true, true, false, false, false, false, false, false, false, false, false, false, false, false] rfl rfl (any_of HT_.out (by kernel_rfl)) (fun _ _ _ h => h) (Or.inl ⟨by rfl, ?_⟩) ?_ ?_
                            rotate_left
                            · intro w'
                              go_simp
                              with_reducible rfl
                            rotate_left
                            · simp only [Act.put, List.setIfInBounds_toArray, List.set_cons_zero, List.set_cons_succ, i64_w, i32_w]
                              rfl
                            refine pure_ (i := 6) (N := some 26) (v := ?_) (a' := ?_) #[true, true, true, false, false, false, true, false, false, false, false, false, false, false, false] rfl rfl (any_of HT_.out (by kernel_rfl)) (fun _ _ _ h => h) (Or.inl ⟨by rfl, ?_⟩) ?_ ?_
                            rotate_left
                            · intro w'
                              go_simp
                              with_reducible rfl
                            rotate_left
                            · simp only [Act.put, List.setIfInBounds_toArray, List.set_cons_zero, List.set_cons_succ, i64_w, i32_w]
                              rfl
                            refine pure_ (i := 10) (N := some 30) (v := ?_) (a' := ?_) #[true, true, true, false, false, false, true, false, false, false, true, false, false, false, false] rfl rfl (any_of HT_.out (by kernel_rfl)) (fun _ _ _ h => h) (Or.inl ⟨by rfl, ?_⟩) ?_ ?_
                            rotate_left
                            · intro w'
                              go_simp
                              with_reducible rfl
                            rotate_left
                            · simp only [Act.put, List.setIfInBounds_toArray, List.set_cons_zero, List.set_cons_succ, i64_w, i32_w]
                              rfl
                            refine take_ (i := 11) (N := some 31) (v := ?_) (a' := ?_) #[true, true, true, false, false, false, true, false, false, false, true, true, false, false, false] rfl rfl (take_ofW HT_.out HW_.out (by kernel_rfl)) (fun _ _ _ h => h) (Or.inl ⟨by rfl, ?_⟩) hHeld ?_ ?_
                            rotate_left
                            · rintro w' ⟨s0, s1, s2, s3, s4, s5, s6, s7, s8⟩
                              go_simp
                              with_reducible rfl
                            rotate_left
                            · simp only [Act.put, List.setIfInBounds_toArray, List.set_cons_zero, List.set_cons_succ, i64_w, i32_w]
                              rfl
                            refine one_ (i := 3) (N := some 23) #[true, true, true, true, false, false, true, false, false, false, true, true, false, false, false] rfl rfl (one_of HT_.out (by kernel_rfl)) (by decide) (fun K hK => ?_)
                            refine goes_ Try.func65 (by kernel_rfl) rfl #[.int .i64 (wrap64 (20 + (a1.size : Int))), .int .i64 2] (by rfl) rfl rfl (by (try simp only [List.map_toArray, List.map_cons, List.map_nil]); first | done | rfl | (simp only [List.length_drop, List.length_take]; rfl)) ?_
                            with_reducible refine (flashlockref11_Low.calls kj4 (wrap64 (20 + (a1.size : Int))) 2 t195 _ A9.out).mono ?_
                            rintro e w27 ⟨rfl, hb⟩
                            refine ⟨_, rfl, ?_⟩
                            have n0_ := Aside0.mk (blk_below (g := gb194) (o := .cells #[.int .u64 a0_0, .int .u64 a0_1, .int .u64 a0_2, .int .u64 a0_3, .int .i64 a0_4, .int .i64 a0_5, .int .i64 a0_6, .int .i64 a0_7, .bool a0_8] 42 (0, 0)) (by (with_reducible repeat (first | refine blk_drewN ?_ _ | refine blk_drew ?_ | refine blk_alloc ?_ _)); exact BK194.out) hb)
                            have n1_ := Aside0.mk (below_step (by repeat (first | (with_reducible first | exact HB.out | apply below_alloc | apply pw_below_drewN | apply below_drew1 | refine below_set ?_ GE194.out) | exact HB.out)) hb)
                            clear BK194
                            clear HB
                            have BK194 := n0_
                            have HB := n1_
                            clear n0_ n1_
                            (try clear hb)
                            (try clear hb2)
                            (try clear hk)
                            (try clear hi)
                            refine hK.out _ _ ⟨(blk_cell BK194.out 0).trans rfl, (blk_cell BK194.out 1).trans rfl, (blk_cell BK194.out 2).trans rfl, (blk_cell BK194.out 3).trans rfl, (blk_cell BK194.out 4).trans rfl, (blk_cell BK194.out 5).trans rfl, (blk_cell BK194.out 6).trans rfl, (blk_cell BK194.out 7).trans rfl, (blk_cell BK194.out 8).trans rfl⟩ (fun hHeld => ?_)
                            clear hK K
                            refine norm_ (a' := ?_) ?_ ?_
                            rotate_left
                            · show Act.put _ (some 23) _ = _
                              simp only [Act.put, List.setIfInBounds_toArray, List.set_cons_zero, List.set_cons_succ, i64_w, i32_w]
                              rfl
                            refine pure_ (i := 4) (N := some 24) (v := ?_) (a' := ?_) #[true, true, true, true, true, false, true, false, false, false, true, true, false, false, false] rfl rfl (any_of HT_.out (by kernel_rfl)) (fun _ _ _ h => h) (Or.inl ⟨by rfl, ?_⟩) ?_ ?_
                            rotate_left
                            · intro w'
                              go_simp
                              with_reducible rfl
                            rotate_left
                            · simp only [Act.put, List.setIfInBounds_toArray, List.set_cons_zero, List.set_cons_succ, i64_w, i32_w]
                              rfl
                            refine pure_ (i := 5) (N := some 25) (v := ?_) (a' := ?_) #[true, true, true, true, true, true, true, false, false, false, true, true, false, false, false] rfl rfl (any_of HT_.out (by kernel_rfl)) (fun _ _ _ h => h) (Or.inl ⟨by rfl, ?_⟩) ?_ ?_
                            rotate_left
                            · intro w'
                              go_simp
                              with_reducible rfl
                            rotate_left
                            · simp only [Act.put, List.setIfInBounds_toArray, List.set_cons_zero, List.set_cons_succ, i64_w, i32_w]
                              rfl
                            refine one_ (i := 7) (N := some 27) #[true, true, true, true, true, true, true, true, false, false, true, true, false, false, false] rfl rfl (one_of HT_.out (by kernel_rfl)) (by decide) (fun K hK => ?_)
                            refine goes_ Try.func65 (by kernel_rfl) rfl #[.int .i64 x5_4, .int .i64 2] (by rfl) rfl rfl (by (try simp only [List.map_toArray, List.map_cons, List.map_nil]); first | done | rfl | (simp only [List.length_drop, List.length_take]; rfl)) ?_
                            with_reducible refine (flashlockref11_Low.calls kj4 x5_4 2 t196 _ A12.out).mono ?_
                            rintro e w28 ⟨rfl, hb⟩
                            refine ⟨_, rfl, ?_⟩
                            have n0_ := Aside0.mk (blk_below (g := gb194) (o := .cells #[.int .u64 a0_0, .int .u64 a0_1, .int .u64 a0_2, .int .u64 a0_3, .int .i64 a0_4, .int .i64 a0_5, .int .i64 a0_6, .int .i64 a0_7, .bool a0_8] 42 (0, 0)) (by (with_reducible repeat (first | refine blk_drewN ?_ _ | refine blk_drew ?_ | refine blk_alloc ?_ _)); exact BK194.out) hb)
                            have n1_ := Aside0.mk (below_step (by repeat (first | (with_reducible first | exact HB.out | apply below_alloc | apply pw_below_drewN | apply below_drew1 | refine below_set ?_ GE194.out) | exact HB.out)) hb)
                            clear BK194
                            clear HB
                            have BK194 := n0_
                            have HB := n1_
                            clear n0_ n1_
                            (try clear hb)
                            (try clear hb2)
                            (try clear hk)
                            (try clear hi)
                            refine hK.out _ _ ⟨(blk_cell BK194.out 0).trans rfl, (blk_cell BK194.out 1).trans rfl, (blk_cell BK194.out 2).trans rfl, (blk_cell BK194.out 3).trans rfl, (blk_cell BK194.out 4).trans rfl, (blk_cell BK194.out 5).trans rfl, (blk_cell BK194.out 6).trans rfl, (blk_cell BK194.out 7).trans rfl, (blk_cell BK194.out 8).trans rfl⟩ (fun hHeld => ?_)
                            clear hK K
                            refine norm_ (a' := ?_) ?_ ?_
                            rotate_left
                            · show Act.put _ (some 27) _ = _
                              simp only [Act.put, List.setIfInBounds_toArray, List.set_cons_zero, List.set_cons_succ, i64_w, i32_w]
                              rfl
                            refine pure_ (i := 8) (N := some 28) (v := ?_) (a' := ?_) #[true, true, true, true, true, true, true, true, true, false, true, true, false, false, false] rfl rfl (any_of HT_.out (by kernel_rfl)) (fun _ _ _ h => h) (Or.inl ⟨by rfl, ?_⟩) ?_ ?_
                            rotate_left
                            · intro w'
                              go_simp
                              with_reducible rfl
                            rotate_left
                            · simp only [Act.put, List.setIfInBounds_toArray, List.set_cons_zero, List.set_cons_succ, i64_w, i32_w]
                              rfl
                            refine pure_ (i := 9) (N := some 29) (v := ?_) (a' := ?_) #[true, true, true, true, true, true, true, true, true, true, true, true, false, false, false] rfl rfl (any_of HT_.out (by kernel_rfl)) (fun _ _ _ h => h) (Or.inl ⟨by rfl, ?_⟩) ?_ ?_
                            rotate_left
                            · intro w'
                              go_simp
                              with_reducible rfl
                            rotate_left
                            · simp only [Act.put, List.setIfInBounds_toArray, List.set_cons_zero, List.set_cons_succ, i64_w, i32_w]
                              rfl
                            refine one_ (i := 12) (N := some 32) #[true, true, true, true, true, true, true, true, true, true, true, true, true, false, false] rfl rfl (one_of HT_.out (by kernel_rfl)) (by decide) (fun K hK => ?_)
                            refine goes_ Try.func65 (by kernel_rfl) rfl #[.int .i64 a0_4, .int .i64 1] (by rfl) rfl rfl (by (try simp only [List.map_toArray, List.map_cons, List.map_nil]); first | done | rfl | (simp only [List.length_drop, List.length_take]; rfl)) ?_
                            with_reducible refine (flashlockref11_Low.calls kj4 a0_4 1 t197 _ A15.out).mono ?_
                            rintro e w29 ⟨rfl, hb⟩
                            refine ⟨_, rfl, ?_⟩
                            have n0_ := Aside0.mk (blk_below (g := gb194) (o := .cells #[.int .u64 a0_0, .int .u64 a0_1, .int .u64 a0_2, .int .u64 a0_3, .int .i64 a0_4, .int .i64 a0_5, .int .i64 a0_6, .int .i64 a0_7, .bool a0_8] 42 (0, 0)) (by (with_reducible repeat (first | refine blk_drewN ?_ _ | refine blk_drew ?_ | refine blk_alloc ?_ _)); exact BK194.out) hb)
                            have n1_ := Aside0.mk (below_step (by repeat (first | (with_reducible first | exact HB.out | apply below_alloc | apply pw_below_drewN | apply below_drew1 | refine below_set ?_ GE194.out) | exact HB.out)) hb)
                            clear BK194
                            clear HB
                            have BK194 := n0_
                            have HB := n1_
                            clear n0_ n1_
                            (try clear hb)
                            (try clear hb2)
                            (try clear hk)
                            (try clear hi)
                            refine hK.out _ _ ⟨(blk_cell BK194.out 0).trans rfl, (blk_cell BK194.out 1).trans rfl, (blk_cell BK194.out 2).trans rfl, (blk_cell BK194.out 3).trans rfl, (blk_cell BK194.out 4).trans rfl, (blk_cell BK194.out 5).trans rfl, (blk_cell BK194.out 6).trans rfl, (blk_cell BK194.out 7).trans rfl, (blk_cell BK194.out 8).trans rfl⟩ (fun hHeld => ?_)
                            clear hK K
                            refine norm_ (a' := ?_) ?_ ?_
                            rotate_left
                            · show Act.put _ (some 32) _ = _
                              simp only [Act.put, List.setIfInBounds_toArray, List.set_cons_zero, List.set_cons_succ, i64_w, i32_w]
                              rfl
                            refine pure_ (i := 13) (N := some 33) (v := ?_) (a' := ?_) #[true, true, true, true, true, true, true, true, true, true, true, true, true, true, false] rfl rfl (any_of HT_.out (by kernel_rfl)) (fun _ _ _ h => h) (Or.inl ⟨by rfl, ?_⟩) ?_ ?_
                            rotate_left
                            · intro w'
                              go_simp
                              with_reducible rfl
                            rotate_left
                            · simp only [Act.put, List.setIfInBounds_toArray, List.set_cons_zero, List.set_cons_succ, i64_w, i32_w]
                              rfl
                            refine pure_ (i := 14) (N := some 6) (v := ?_) (a' := ?_) #[true, true, true, true, true, true, true, true, true, true, true, true, true, true, true] rfl rfl (any_of HT_.out (by kernel_rfl)) (fun _ _ _ h => h) (Or.inl ⟨by rfl, ?_⟩) ?_ ?_
                            rotate_left
                            · intro w'
                              go_simp
                              with_reducible rfl
                            rotate_left
                            · simp only [Act.put, List.setIfInBounds_toArray, List.set_cons_zero, List.set_cons_succ, i64_w, i32_w]
                              rfl
                            refine done_ (done_of HT_.out (by kernel_rfl)) ?_
                            try go_wp2
                            have n0_ := Aside0.mk (blk_drew BK194.out)
                            have n1_ := Aside0.mk (below_drew1 HB.out)
                            clear BK194
                            clear HB
                            have BK194 := n0_
                            have HB := n1_
                            clear n0_ n1_
                            refine start_ (n := 10) (S := fun w' => w'.cell? ⟨gb194, 0, none⟩ = some (.int .u64 a0_0) ∧ w'.cell? ⟨gb194, 1, none⟩ = some (.int .u64 a0_1) ∧ w'.cell? ⟨gb194, 2, none⟩ = some (.int .u64 a0_2) ∧ w'.cell? ⟨gb194, 3, none⟩ = some (.int .u64 a0_3) ∧ w'.cell? ⟨gb194, 4, none⟩ = some (.int .i64 a0_4) ∧ w'.cell? ⟨gb194, 5, none⟩ = some (.int .i64 a0_5) ∧ w'.cell? ⟨gb194, 6, none⟩ = some (.int .i64 a0_6) ∧ w'.cell? ⟨gb194, 7, none⟩ = some (.int .i64 a0_7) ∧ w'.cell? ⟨gb194, 8, none⟩ = some (.bool a0_8)) (ds := []) #[false, false, false, false, false, false, false, false, false, false] (by kernel_rfl) rfl rfl ⟨(blk_cell BK194.out 0).trans rfl, (blk_cell BK194.out 1).trans rfl, (blk_cell BK194.out 2).trans rfl, (blk_cell BK194.out 3).trans rfl, (blk_cell BK194.out 4).trans rfl, (blk_cell BK194.out 5).trans rfl, (blk_cell BK194.out 6).trans rfl, (blk_cell BK194.out 7).trans rfl, (blk_cell BK194.out 8).trans rfl⟩ (fun hHeld => ?_); refine with_tabW flashlockref11_Make.tab7 flashlockref11_Make.bits7 (fun HT_ HW_ => ?_)
                            generalize w29.drew = w30 at BK194 HB hHeld ⊢
                            refine pure_ (i := 0) (N := some 34) (v := ?_) (a' := ?_) #[true, false, false, false, false, false, false, false, false, false] rfl rfl (any_of HT_.out (by kernel_rfl)) (fun _ _ _ h => h) (Or.inl ⟨by rfl, ?_⟩) ?_ ?_
                            rotate_left
                            · intro w'
                              go_simp
                              with_reducible rfl
                            rotate_left
                            · simp only [Act.put, List.setIfInBounds_toArray, List.set_cons_zero, List.set_cons_succ, i64_w, i32_w]
                              rfl
                            refine pure_ (i := 1) (N := some 35) (v := ?_) (a' := ?_) #[true, true, false, false, false, false, false, false, false, false] rfl rfl (any_of HT_.out (by kernel_rfl)) (fun _ _ _ h => h) (Or.inl ⟨by rfl, ?_⟩) ?_ ?_
                            rotate_left
                            · intro w'
                              go_simp
                              with_reducible rfl
                            rotate_left
                            · simp only [Act.put, List.setIfInBounds_toArray, List.set_cons_zero, List.set_cons_succ, i64_w, i32_w]
                              rfl
                            refine pure_ (i := 4) (N := some 38) (v := ?_) (a' := ?_) #[true, true, false, false, true, false, false, false, false, false] rfl rfl (any_of HT_.out (by kernel_rfl)) (fun _ _ _ h => h) (Or.inl ⟨by rfl, ?_⟩) ?_ ?_
                            rotate_left
                            · intro w'
                              go_simp
                              with_reducible rfl
                            rotate_left
                            · simp only [Act.put, List.setIfInBounds_toArray, List.set_cons_zero, List.set_cons_succ, i64_w, i32_w]
                              rfl
                            refine pure_ (i := 5) (N := some 39) (v := ?_) (a' := ?_) #[true, true, false, false, true, true, false, false, false, false] rfl rfl (any_of HT_.out (by kernel_rfl)) (fun _ _ _ h => h) (Or.inl ⟨by rfl, ?_⟩) ?_ ?_
                            rotate_left
                            · intro w'
                              go_simp
                              with_reducible rfl
                            rotate_left
                            · simp only [Act.put, List.setIfInBounds_toArray, List.set_cons_zero, List.set_cons_succ, i64_w, i32_w]
                              rfl
                            refine take_ (i := 2) (N := some 36) (v := ?_) (a' := ?_) #[true, true, true, false, true, true, false, false, false, false] rfl rfl (take_ofW HT_.out HW_.out (by kernel_rfl)) (fun _ _ _ h => h) (Or.inl ⟨by rfl, ?_⟩) hHeld ?_ ?_
                            rotate_left
                            · rintro w' ⟨s0, s1, s2, s3, s4, s5, s6, s7, s8⟩
                              go_simp
                              with_reducible rfl
                            rotate_left
                            · simp only [Act.put, List.setIfInBounds_toArray, List.set_cons_zero, List.set_cons_succ, i64_w, i32_w]
                              rfl
                            refine take_ (i := 6) (N := some 40) (v := ?_) (a' := ?_) #[true, true, true, false, true, true, true, false, false, false] rfl rfl (take_ofW HT_.out HW_.out (by kernel_rfl)) (fun _ _ _ h => h) (Or.inl ⟨by rfl, ?_⟩) hHeld ?_ ?_
                            rotate_left
                            · rintro w' ⟨s0, s1, s2, s3, s4, s5, s6, s7, s8⟩
                              go_simp
                              with_reducible rfl
                            rotate_left
                            · simp only [Act.put, List.setIfInBounds_toArray, List.set_cons_zero, List.set_cons_succ, i64_w, i32_w]
                              rfl
                            refine one_ (i := 3) (N := some 37) #[true, true, true, true, true, true, true, false, false, false] rfl rfl (one_of HT_.out (by kernel_rfl)) (by decide) (fun K hK => ?_)
                            refine goes_ Try.func59 (by kernel_rfl) rfl #[.int .u64 a0_1, .int .i64 4] (by rfl) rfl rfl (by (try simp only [List.map_toArray, List.map_cons, List.map_nil]); first | done | rfl | (simp only [List.length_drop, List.length_take]; rfl)) ?_
                            with_reducible refine (flashlockref09_PutNum.calls kj4 a0_1 4 t198 _ A17.out).mono ?_
                            rintro e w31 ⟨rfl, hb⟩
                            refine ⟨_, rfl, ?_⟩
                            have n0_ := Aside0.mk (blk_below (g := gb194) (o := .cells #[.int .u64 a0_0, .int .u64 a0_1, .int .u64 a0_2, .int .u64 a0_3, .int .i64 a0_4, .int .i64 a0_5, .int .i64 a0_6, .int .i64 a0_7, .bool a0_8] 42 (0, 0)) (by (with_reducible repeat (first | refine blk_drewN ?_ _ | refine blk_drew ?_ | refine blk_alloc ?_ _)); exact BK194.out) hb)
                            have n1_ := Aside0.mk (below_step (by repeat (first | (with_reducible first | exact HB.out | apply below_alloc | apply pw_below_drewN | apply below_drew1 | refine below_set ?_ GE194.out) | exact HB.out)) hb)
                            clear BK194
                            clear HB
                            have BK194 := n0_
                            have HB := n1_
                            clear n0_ n1_
                            (try clear hb)
                            (try clear hb2)
                            (try clear hk)
                            (try clear hi)
                            refine hK.out _ _ ⟨(blk_cell BK194.out 0).trans rfl, (blk_cell BK194.out 1).trans rfl, (blk_cell BK194.out 2).trans rfl, (blk_cell BK194.out 3).trans rfl, (blk_cell BK194.out 4).trans rfl, (blk_cell BK194.out 5).trans rfl, (blk_cell BK194.out 6).trans rfl, (blk_cell BK194.out 7).trans rfl, (blk_cell BK194.out 8).trans rfl⟩ (fun hHeld => ?_)
                            clear hK K
                            refine norm_ (a' := ?_) ?_ ?_
                            rotate_left
                            · show Act.put _ (some 37) _ = _
                              simp only [Act.put, List.setIfInBounds_toArray, List.set_cons_zero, List.set_cons_succ, i64_w, i32_w]
                              rfl
                            refine one_ (i := 7) (N := some 41) #[true, true, true, true, true, true, true, true, false, false] rfl rfl (one_of HT_.out (by kernel_rfl)) (by decide) (fun K hK => ?_)
                            refine goes_ Try.func59 (by kernel_rfl) rfl #[.int .u64 a0_3, .int .i64 4] (by rfl) rfl rfl (by (try simp only [List.map_toArray, List.map_cons, List.map_nil]); first | done | rfl | (simp only [List.length_drop, List.length_take]; rfl)) ?_
                            with_reducible refine (flashlockref09_PutNum.calls kj4 a0_3 4 t199 _ A18.out).mono ?_
                            rintro e w32 ⟨rfl, hb⟩
                            refine ⟨_, rfl, ?_⟩
                            have n0_ := Aside0.mk (blk_below (g := gb194) (o := .cells #[.int .u64 a0_0, .int .u64 a0_1, .int .u64 a0_2, .int .u64 a0_3, .int .i64 a0_4, .int .i64 a0_5, .int .i64 a0_6, .int .i64 a0_7, .bool a0_8] 42 (0, 0)) (by (with_reducible repeat (first | refine blk_drewN ?_ _ | refine blk_drew ?_ | refine blk_alloc ?_ _)); exact BK194.out) hb)
                            have n1_ := Aside0.mk (below_step (by repeat (first | (with_reducible first | exact HB.out | apply below_alloc | apply pw_below_drewN | apply below_drew1 | refine below_set ?_ GE194.out) | exact HB.out)) hb)
                            clear BK194
                            clear HB
                            have BK194 := n0_
                            have HB := n1_
                            clear n0_ n1_
                            (try clear hb)
                            (try clear hb2)
                            (try clear hk)
                            (try clear hi)
                            refine hK.out _ _ ⟨(blk_cell BK194.out 0).trans rfl, (blk_cell BK194.out 1).trans rfl, (blk_cell BK194.out 2).trans rfl, (blk_cell BK194.out 3).trans rfl, (blk_cell BK194.out 4).trans rfl, (blk_cell BK194.out 5).trans rfl, (blk_cell BK194.out 6).trans rfl, (blk_cell BK194.out 7).trans rfl, (blk_cell BK194.out 8).trans rfl⟩ (fun hHeld => ?_)
                            clear hK K
                            refine norm_ (a' := ?_) ?_ ?_
                            rotate_left
                            · show Act.put _ (some 41) _ = _
                              simp only [Act.put, List.setIfInBounds_toArray, List.set_cons_zero, List.set_cons_succ, i64_w, i32_w]
                              rfl
                            refine pure_ (i := 8) (N := some 42) (v := ?_) (a' := ?_) #[true, true, true, true, true, true, true, true, true, false] rfl rfl (any_of HT_.out (by kernel_rfl)) (fun _ _ _ h => h) (Or.inl ⟨by rfl, ?_⟩) ?_ ?_
                            rotate_left
                            · intro w'
                              go_simp
                              with_reducible rfl
                            rotate_left
                            · simp only [Act.put, List.setIfInBounds_toArray, List.set_cons_zero, List.set_cons_succ, i64_w, i32_w]
                              rfl
                            refine pure_ (i := 9) (N := some 7) (v := ?_) (a' := ?_) #[true, true, true, true, true, true, true, true, true, true] rfl rfl (any_of HT_.out (by kernel_rfl)) (fun _ _ _ h => h) (Or.inl ⟨by rfl, ?_⟩) ?_ ?_
                            rotate_left
                            · intro w'
                              go_simp
                              with_reducible rfl
                            rotate_left
                            · simp only [Act.put, List.setIfInBounds_toArray, List.set_cons_zero, List.set_cons_succ, i64_w, i32_w]
                              rfl
                            refine done_ (done_of HT_.out (by kernel_rfl)) ?_
                            try go_wp2_with (first | ((with_reducible refine gate_callee (f := 66) rfl ?_); refine goesL_ (some 47) rfl rfl Try.func66 (by kernel_rfl) rfl #[.string (((((((⟨#[69, 0]⟩ : ByteArray) ++ t195) ++ (⟨#[0, 0]⟩ : ByteArray)) ++ t196) ++ (⟨#[0]⟩ : ByteArray)) ++ t197) ++ (t198 ++ t199))] rfl (by (try simp only [List.map_toArray, List.map_cons, List.map_nil]); first | done | rfl | (simp only [List.length_drop, List.length_take]; rfl)) ?_; (with_reducible refine (flashlockref11_Sum.calls kj4 (((((((⟨#[69, 0]⟩ : ByteArray) ++ t195) ++ (⟨#[0, 0]⟩ : ByteArray)) ++ t196) ++ (⟨#[0]⟩ : ByteArray)) ++ t197) ++ (t198 ++ t199)) t200 _ A21.out).mono ?_); rintro e w' ⟨rfl, ⟨nd, rfl⟩⟩; refine ⟨_, rfl, ?_⟩) | ((with_reducible refine gate_callee (f := 65) rfl ?_); refine goesL_ (some 48) rfl rfl Try.func65 (by kernel_rfl) rfl #[.int .i64 t200, .int .i64 2] rfl (by (try simp only [List.map_toArray, List.map_cons, List.map_nil]); first | done | rfl | (simp only [List.length_drop, List.length_take]; rfl)) ?_; (with_reducible refine (flashlockref11_Low.calls kj4 t200 2 t201 _ A22.out).mono ?_); rintro e w33 ⟨rfl, hb⟩; refine ⟨_, rfl, ?_⟩; have n0_ := Aside0.mk (blk_below (g := gb194) (o := .cells #[.int .u64 a0_0, .int .u64 a0_1, .int .u64 a0_2, .int .u64 a0_3, .int .i64 a0_4, .int .i64 a0_5, .int .i64 a0_6, .int .i64 a0_7, .bool a0_8] 42 (0, 0)) (by (with_reducible repeat (first | refine blk_drewN ?_ _ | refine blk_drew ?_ | refine blk_alloc ?_ _)); exact BK194.out) hb); have n1_ := Aside0.mk (below_step (by repeat (first | (with_reducible first | exact HB.out | apply below_alloc | apply pw_below_drewN | apply below_drew1 | refine below_set ?_ GE194.out) | exact HB.out)) hb); clear BK194; clear HB; have BK194 := n0_; have HB := n1_; clear n0_ n1_; (try clear hb); (try clear hb2); (try clear hk); (try clear hi)))
                            go_ret
                            exact ⟨by first | rfl | (simp [errW_none, errW_some] <;> rfl) | (simp [*, errW_none, errW_some] <;> rfl), by repeat (first | (with_reducible first | exact HB.out | apply below_alloc | apply pw_below_drewN | apply below_drew1 | refine below_set ?_ GE194.out) | exact HB.out)⟩
                          · rw [if_neg c25] at H
                            exact absurd H (by simp)
                        · rw [if_neg c24] at H
                          exact absurd H (by simp)
                      · rw [if_neg c23] at H
                        exact absurd H (by simp)
                    · rw [if_neg c20] at H
                      exact absurd H (by simp)
                  · rw [if_neg c19] at H
                    exact absurd H (by simp)
                · rw [if_neg c16] at H
                  exact absurd H (by simp)
              · rw [if_neg c14] at H
                exact absurd H (by simp)
            · rw [if_neg c13] at H
              exact absurd H (by simp)
          · rw [if_neg c11] at H
            exact absurd H (by simp)
        · rw [if_neg c10] at H
          exact absurd H (by simp)

end Go.Proofs.Ytkgcoeagifjbpaa.PR
