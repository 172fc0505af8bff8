-- written by wip/tools/pr.py over the kit's print.py, out of the translation; Lean checks it
import Derived.Test.YtclfambjkolckaaPIx0
import Derived.Test.YtclfambjkolckaaPIx3
namespace Go.Proofs.Ytclfambjkolckaa.PI
open Go.RowKit Go.Proofs.YtclfambjkolckaaW.PrintWords Go.Proofs.YtclfambjkolckaaW.PrintLast Go.Proofs.YtclfambjkolckaaW.PrintMore
attribute [local go_sem] max2_int min2_int max_two min_two max_three min_three max_four min_four   -- for this text's walks alone
set_option linter.unusedVariables false
set_option linter.unusedSimpArgs false

/-! ### flashlockref17_Right: function 145 -/
mutual
def flashlockref17_Right.j0 : Nat → Bool → Int → Int → Nat → Int → Int → Int → Int → Int → Int → Bool → Bool → Option (Int)
  | 0, _, _, _, _, _, _, _, _, _, _, _, _ => none
  | k + 1, x22, x132000, x132001, x132002, x132003, x132004, x132005, x132006, x132007, x132008, x132009, x132010 => if x22 = true then (some 2) else (if x132000 = x132001 then (some 11) else ((flashlockref03_Units.f x132002).bind fun bt132 => (if bt132.2 = 21 then (some 21) else (if bt132.2 = 0 then (flashlockref17_Right.j1 k (decide (bt132.1 < 1)) x132000 x132001 x132002 x132003 x132004 x132005 x132006 x132007 x132008 x132009 x132010) else (flashlockref17_Right.j1 k true x132000 x132001 x132002 x132003 x132004 x132005 x132006 x132007 x132008 x132009 x132010)))))
def flashlockref17_Right.j1 : Nat → Bool → Int → Int → Nat → Int → Int → Int → Int → Int → Int → Bool → Bool → Option (Int)
  | 0, _, _, _, _, _, _, _, _, _, _, _, _ => none
  | k + 1, x41, x132000, x132001, x132002, x132003, x132004, x132005, x132006, x132007, x132008, x132009, x132010 => if x41 = true then (some 13) else (if x132003 < 0 then (flashlockref17_Right.j2 k true x132000 x132001 x132002 x132003 x132004 x132005 x132006 x132007 x132008 x132009 x132010) else (flashlockref17_Right.j2 k (decide (x132003 > 7)) x132000 x132001 x132002 x132003 x132004 x132005 x132006 x132007 x132008 x132009 x132010))
def flashlockref17_Right.j2 : Nat → Bool → Int → Int → Nat → Int → Int → Int → Int → Int → Int → Bool → Bool → Option (Int)
  | 0, _, _, _, _, _, _, _, _, _, _, _, _ => none
  | k + 1, x49, x132000, x132001, x132002, x132003, x132004, x132005, x132006, x132007, x132008, x132009, x132010 => if x49 = true then (some 14) else (if x132004 < 1 then (flashlockref17_Right.j3 k true x132000 x132001 x132002 x132003 x132004 x132005 x132006 x132007 x132008 x132009 x132010) else (if x132004 > 65536 then (flashlockref17_Right.j3 k true x132000 x132001 x132002 x132003 x132004 x132005 x132006 x132007 x132008 x132009 x132010) else (if x132005 < 1 then (flashlockref17_Right.j3 k true x132000 x132001 x132002 x132003 x132004 x132005 x132006 x132007 x132008 x132009 x132010) else (flashlockref17_Right.j3 k (decide (x132005 > 1024)) x132000 x132001 x132002 x132003 x132004 x132005 x132006 x132007 x132008 x132009 x132010))))
def flashlockref17_Right.j3 : Nat → Bool → Int → Int → Nat → Int → Int → Int → Int → Int → Int → Bool → Bool → Option (Int)
  | 0, _, _, _, _, _, _, _, _, _, _, _, _ => none
  | k + 1, x67, x132000, x132001, x132002, x132003, x132004, x132005, x132006, x132007, x132008, x132009, x132010 => if x67 = true then (some 16) else (if x132006 < 0 then (some 2) else (if x132006 > 16 then (some 2) else (if x132007 < (-1099511627776) then (some 2) else (if x132007 > 0 then (some 2) else (if x132008 < 0 then (some 2) else (if x132008 > 1099511627776 then (some 2) else (some 0)))))))
end
def flashlockref17_Right.f (k : Nat) (a0_0 : Int) (a0_1 : Int) (a0_2 : Nat) (a0_3 : Int) (a0_4 : Int) (a0_5 : Int) (a0_6 : Int) (a0_7 : Int) (a0_8 : Int) (a0_9 : Bool) (a0_10 : Bool) : Option (Int) := if a0_0 < 1 then (flashlockref17_Right.j0 k true a0_0 a0_1 a0_2 a0_3 a0_4 a0_5 a0_6 a0_7 a0_8 a0_9 a0_10) else (if a0_0 > 65535 then (flashlockref17_Right.j0 k true a0_0 a0_1 a0_2 a0_3 a0_4 a0_5 a0_6 a0_7 a0_8 a0_9 a0_10) else (if a0_1 < 0 then (flashlockref17_Right.j0 k true a0_0 a0_1 a0_2 a0_3 a0_4 a0_5 a0_6 a0_7 a0_8 a0_9 a0_10) else (flashlockref17_Right.j0 k (decide (a0_1 > 65535)) a0_0 a0_1 a0_2 a0_3 a0_4 a0_5 a0_6 a0_7 a0_8 a0_9 a0_10)))
theorem flashlockref17_Right.mono_l : ∀ k, (∀ y0 y1 y2 y3 y4 y5 y6 y7 y8 y9 y10 y11, LeO (flashlockref17_Right.j0 k y0 y1 y2 y3 y4 y5 y6 y7 y8 y9 y10 y11) (flashlockref17_Right.j0 (k + 1) y0 y1 y2 y3 y4 y5 y6 y7 y8 y9 y10 y11)) ∧ (∀ y0 y1 y2 y3 y4 y5 y6 y7 y8 y9 y10 y11, LeO (flashlockref17_Right.j1 k y0 y1 y2 y3 y4 y5 y6 y7 y8 y9 y10 y11) (flashlockref17_Right.j1 (k + 1) y0 y1 y2 y3 y4 y5 y6 y7 y8 y9 y10 y11)) ∧ (∀ y0 y1 y2 y3 y4 y5 y6 y7 y8 y9 y10 y11, LeO (flashlockref17_Right.j2 k y0 y1 y2 y3 y4 y5 y6 y7 y8 y9 y10 y11) (flashlockref17_Right.j2 (k + 1) y0 y1 y2 y3 y4 y5 y6 y7 y8 y9 y10 y11)) ∧ (∀ y0 y1 y2 y3 y4 y5 y6 y7 y8 y9 y10 y11, LeO (flashlockref17_Right.j3 k y0 y1 y2 y3 y4 y5 y6 y7 y8 y9 y10 y11) (flashlockref17_Right.j3 (k + 1) y0 y1 y2 y3 y4 y5 y6 y7 y8 y9 y10 y11))
  | 0 => ⟨fun _ _ _ _ _ _ _ _ _ _ _ _ r h => by simp [flashlockref17_Right.j0] at h, fun _ _ _ _ _ _ _ _ _ _ _ _ r h => by simp [flashlockref17_Right.j1] at h, fun _ _ _ _ _ _ _ _ _ _ _ _ r h => by simp [flashlockref17_Right.j2] at h, fun _ _ _ _ _ _ _ _ _ _ _ _ r h => by simp [flashlockref17_Right.j3] at h⟩
  | k + 1 => by
    obtain ⟨ih0, ih1, ih2, ih3⟩ := flashlockref17_Right.mono_l k
    refine ⟨?_, ?_, ?_, ?_⟩
    · intro y0 y1 y2 y3 y4 y5 y6 y7 y8 y9 y10 y11
      unfold flashlockref17_Right.j0
      repeat' first
      | (with_reducible exact ih0 _ _ _ _ _ _ _ _ _ _ _ _)
      | (with_reducible exact ih1 _ _ _ _ _ _ _ _ _ _ _ _)
      | (with_reducible exact ih2 _ _ _ _ _ _ _ _ _ _ _ _)
      | (with_reducible exact ih3 _ _ _ _ _ _ _ _ _ _ _ _)
      | (with_reducible exact LeO.refl _)
      | (with_reducible exact LeO.none _)
      | (with_reducible refine LeO.ite ?_ ?_)
      | (with_reducible refine LeO.bind ?_ (fun _ => ?_))
      | exact ih0 _ _ _ _ _ _ _ _ _ _ _ _
      | exact ih1 _ _ _ _ _ _ _ _ _ _ _ _
      | exact ih2 _ _ _ _ _ _ _ _ _ _ _ _
      | exact ih3 _ _ _ _ _ _ _ _ _ _ _ _
      | exact LeO.none _
      | refine LeO.ite ?_ ?_
      | refine LeO.bind ?_ (fun _ => ?_)
    · intro y0 y1 y2 y3 y4 y5 y6 y7 y8 y9 y10 y11
      unfold flashlockref17_Right.j1
      repeat' first
      | (with_reducible exact ih0 _ _ _ _ _ _ _ _ _ _ _ _)
      | (with_reducible exact ih1 _ _ _ _ _ _ _ _ _ _ _ _)
      | (with_reducible exact ih2 _ _ _ _ _ _ _ _ _ _ _ _)
      | (with_reducible exact ih3 _ _ _ _ _ _ _ _ _ _ _ _)
      | (with_reducible exact LeO.refl _)
      | (with_reducible exact LeO.none _)
      | (with_reducible refine LeO.ite ?_ ?_)
      | (with_reducible refine LeO.bind ?_ (fun _ => ?_))
      | exact ih0 _ _ _ _ _ _ _ _ _ _ _ _
      | exact ih1 _ _ _ _ _ _ _ _ _ _ _ _
      | exact ih2 _ _ _ _ _ _ _ _ _ _ _ _
      | exact ih3 _ _ _ _ _ _ _ _ _ _ _ _
      | exact LeO.none _
      | refine LeO.ite ?_ ?_
      | refine LeO.bind ?_ (fun _ => ?_)
    · intro y0 y1 y2 y3 y4 y5 y6 y7 y8 y9 y10 y11
      unfold flashlockref17_Right.j2
      repeat' first
      | (with_reducible exact ih0 _ _ _ _ _ _ _ _ _ _ _ _)
      | (with_reducible exact ih1 _ _ _ _ _ _ _ _ _ _ _ _)
      | (with_reducible exact ih2 _ _ _ _ _ _ _ _ _ _ _ _)
      | (with_reducible exact ih3 _ _ _ _ _ _ _ _ _ _ _ _)
      | (with_reducible exact LeO.refl _)
      | (with_reducible exact LeO.none _)
      | (with_reducible refine LeO.ite ?_ ?_)
      | (with_reducible refine LeO.bind ?_ (fun _ => ?_))
      | exact ih0 _ _ _ _ _ _ _ _ _ _ _ _
      | exact ih1 _ _ _ _ _ _ _ _ _ _ _ _
      | exact ih2 _ _ _ _ _ _ _ _ _ _ _ _
      | exact ih3 _ _ _ _ _ _ _ _ _ _ _ _
      | exact LeO.none _
      | refine LeO.ite ?_ ?_
      | refine LeO.bind ?_ (fun _ => ?_)
    · intro y0 y1 y2 y3 y4 y5 y6 y7 y8 y9 y10 y11
      unfold flashlockref17_Right.j3
      repeat' first
      | (with_reducible exact ih0 _ _ _ _ _ _ _ _ _ _ _ _)
      | (with_reducible exact ih1 _ _ _ _ _ _ _ _ _ _ _ _)
      | (with_reducible exact ih2 _ _ _ _ _ _ _ _ _ _ _ _)
      | (with_reducible exact ih3 _ _ _ _ _ _ _ _ _ _ _ _)
      | (with_reducible exact LeO.refl _)
      | (with_reducible exact LeO.none _)
      | (with_reducible refine LeO.ite ?_ ?_)
      | (with_reducible refine LeO.bind ?_ (fun _ => ?_))
      | exact ih0 _ _ _ _ _ _ _ _ _ _ _ _
      | exact ih1 _ _ _ _ _ _ _ _ _ _ _ _
      | exact ih2 _ _ _ _ _ _ _ _ _ _ _ _
      | exact ih3 _ _ _ _ _ _ _ _ _ _ _ _
      | exact LeO.none _
      | refine LeO.ite ?_ ?_
      | refine LeO.bind ?_ (fun _ => ?_)
theorem flashlockref17_Right.mono : ∀ a0 a1 a2 a3 a4 a5 a6 a7 a8 a9 a10 k, LeO (flashlockref17_Right.f k a0 a1 a2 a3 a4 a5 a6 a7 a8 a9 a10) (flashlockref17_Right.f (k + 1) a0 a1 a2 a3 a4 a5 a6 a7 a8 a9 a10) := by
  intro a0 a1 a2 a3 a4 a5 a6 a7 a8 a9 a10 k
  obtain ⟨ih0, ih1, ih2, ih3⟩ := flashlockref17_Right.mono_l k
  unfold flashlockref17_Right.f
  repeat' first
      | (with_reducible exact ih0 _ _ _ _ _ _ _ _ _ _ _ _)
      | (with_reducible exact ih1 _ _ _ _ _ _ _ _ _ _ _ _)
      | (with_reducible exact ih2 _ _ _ _ _ _ _ _ _ _ _ _)
      | (with_reducible exact ih3 _ _ _ _ _ _ _ _ _ _ _ _)
      | (with_reducible exact LeO.refl _)
      | (with_reducible exact LeO.none _)
      | (with_reducible refine LeO.ite ?_ ?_)
      | (with_reducible refine LeO.bind ?_ (fun _ => ?_))
      | exact ih0 _ _ _ _ _ _ _ _ _ _ _ _
      | exact ih1 _ _ _ _ _ _ _ _ _ _ _ _
      | exact ih2 _ _ _ _ _ _ _ _ _ _ _ _
      | exact ih3 _ _ _ _ _ _ _ _ _ _ _ _
      | exact LeO.none _
      | refine LeO.ite ?_ ?_
      | refine LeO.bind ?_ (fun _ => ?_)
set_option maxHeartbeats 8000000 in
set_option maxRecDepth 100000 in
theorem flashlockref17_Right.calls (k : Nat) (a0_0 : Int) (a0_1 : Int) (a0_2 : Nat) (a0_3 : Int) (a0_4 : Int) (a0_5 : Int) (a0_6 : Int) (a0_7 : Int) (a0_8 : Int) (a0_9 : Bool) (a0_10 : Bool) (r : Int) (w : World) (h : flashlockref17_Right.f k a0_0 a0_1 a0_2 a0_3 a0_4 a0_5 a0_6 a0_7 a0_8 a0_9 a0_10 = some r) :
    Calls Try.prog 145 #[.agg #[.int .i64 a0_0, .int .i64 a0_1, .float .f64 a0_2, .int .i64 a0_3, .int .i64 a0_4, .int .i64 a0_5, .int .i64 a0_6, .int .i64 a0_7, .int .i64 a0_8, .bool a0_9, .bool a0_10]] w fun e w' => e = .returned (.int .i64 r) ∧ Below w.heap.size w w' := by
  have hu95 := Try.underlying95
  have HB := Aside0.mk (Below.refl w.heap.size w)
  have H : (if a0_0 < 1 then (flashlockref17_Right.j0 k true a0_0 a0_1 a0_2 a0_3 a0_4 a0_5 a0_6 a0_7 a0_8 a0_9 a0_10) else (if a0_0 > 65535 then (flashlockref17_Right.j0 k true a0_0 a0_1 a0_2 a0_3 a0_4 a0_5 a0_6 a0_7 a0_8 a0_9 a0_10) else (if a0_1 < 0 then (flashlockref17_Right.j0 k true a0_0 a0_1 a0_2 a0_3 a0_4 a0_5 a0_6 a0_7 a0_8 a0_9 a0_10) else (flashlockref17_Right.j0 k (decide (a0_1 > 65535)) a0_0 a0_1 a0_2 a0_3 a0_4 a0_5 a0_6 a0_7 a0_8 a0_9 a0_10)))) = some r := h
  clear h
  have HC2 := Aside0.mk H
  clear H
  go_enter Try.func145, Try.ntmps145
  go_upto_region 1 with (first | ((with_reducible refine gate_dst (N := 1) rfl ?_); refine box_event ?hg (N := 1) ?hd (cs := #[.int .i64 a0_0, .int .i64 a0_1, .float .f64 a0_2, .int .i64 a0_3, .int .i64 a0_4, .int .i64 a0_5, .int .i64 a0_6, .int .i64 a0_7, .int .i64 a0_8, .bool a0_9, .bool a0_10]) (t := 95) ?hr ?_; (case hd => rfl); (case hg => rfl); (case hr => first | (go_simp; done) | (go_simp; rfl)); intro gb131 hg w3 hbox hb; have n0_ := Aside0.mk (below_step (by repeat (first | (with_reducible first | exact HB.out | apply below_alloc | apply pw_below_drewN | apply below_drew1) | exact HB.out)) hb); have n1_ := Aside0.mk (hbox); have n2_ := Aside0.mk ((by rw [hg]; exact (below_size (by repeat (first | (with_reducible first | exact HB.out | apply below_alloc | apply pw_below_drewN | apply below_drew1) | exact HB.out))) : w.heap.size ≤ gb131)); have n3_ := Aside0.mk ((by rw [hg]; exact (below_size (by repeat (first | (with_reducible first | exact HB.out | apply below_alloc | apply pw_below_drewN | apply below_drew1) | exact HB.out))) : w.heap.size ≤ gb131)); clear HB; have HB := n0_; have BK131 := n1_; have GW131 := n2_; have GE131 := n3_; clear n0_ n1_ n2_ n3_; clear hb hbox hg))
  (try simp only [Act.put, List.setIfInBounds_toArray, List.set_cons_zero, List.set_cons_succ])
  go_cut [22] (fun v22 wc => ∃ (kq : Nat) (x22_1 : Bool), v22 = .bool x22_1 ∧ Aside0 (flashlockref17_Right.j0 kq x22_1 a0_0 a0_1 a0_2 a0_3 a0_4 a0_5 a0_6 a0_7 a0_8 a0_9 a0_10 = some r) ∧ Aside0 (kq ≤ k) ∧ Aside0 (wc.heap[gb131]? = some (.cells #[.int .i64 a0_0, .int .i64 a0_1, .float .f64 a0_2, .int .i64 a0_3, .int .i64 a0_4, .int .i64 a0_5, .int .i64 a0_6, .int .i64 a0_7, .int .i64 a0_8, .bool a0_9, .bool a0_10] 95 (0, 0))) ∧ Aside0 (Below w.heap.size w wc))
  case first =>
    have H := HC2.out
    clear HC2
    by_cases c4 : a0_0 < 1
    · rw [if_pos c4] at H
      have c4b0 : decide (a0_0 < 1) = true := decide_eq_true c4
      clear c4
      (first | rw [c4b0] | (simp only [i64_w, i32_w]; rw [c4b0]) | skip)
      have H' := Aside0.mk H
      clear H
      have hcz5_0 : w3.cell? ⟨gb131, 0, none⟩ = some (.int .i64 a0_0) := (blk_cell BK131.out 0).trans rfl
      have hcz5_1 : w3.cell? ⟨gb131, 1, none⟩ = some (.int .i64 a0_1) := (blk_cell BK131.out 1).trans rfl
      have hcz5_2 : w3.cell? ⟨gb131, 2, none⟩ = some (.float .f64 a0_2) := (blk_cell BK131.out 2).trans rfl
      have hcz5_3 : w3.cell? ⟨gb131, 3, none⟩ = some (.int .i64 a0_3) := (blk_cell BK131.out 3).trans rfl
      have hcz5_4 : w3.cell? ⟨gb131, 4, none⟩ = some (.int .i64 a0_4) := (blk_cell BK131.out 4).trans rfl
      have hcz5_5 : w3.cell? ⟨gb131, 5, none⟩ = some (.int .i64 a0_5) := (blk_cell BK131.out 5).trans rfl
      have hcz5_6 : w3.cell? ⟨gb131, 6, none⟩ = some (.int .i64 a0_6) := (blk_cell BK131.out 6).trans rfl
      have hcz5_7 : w3.cell? ⟨gb131, 7, none⟩ = some (.int .i64 a0_7) := (blk_cell BK131.out 7).trans rfl
      have hcz5_8 : w3.cell? ⟨gb131, 8, none⟩ = some (.int .i64 a0_8) := (blk_cell BK131.out 8).trans rfl
      have hcz5_9 : w3.cell? ⟨gb131, 9, none⟩ = some (.bool a0_9) := (blk_cell BK131.out 9).trans rfl
      have hcz5_10 : w3.cell? ⟨gb131, 10, none⟩ = some (.bool a0_10) := (blk_cell BK131.out 10).trans rfl
      have hfz5_0 := blk_frozen BK131.out 0
      have hfz5_1 := blk_frozen BK131.out 1
      have hfz5_2 := blk_frozen BK131.out 2
      have hfz5_3 := blk_frozen BK131.out 3
      have hfz5_4 := blk_frozen BK131.out 4
      have hfz5_5 := blk_frozen BK131.out 5
      have hfz5_6 := blk_frozen BK131.out 6
      have hfz5_7 := blk_frozen BK131.out 7
      have hfz5_8 := blk_frozen BK131.out 8
      have hfz5_9 := blk_frozen BK131.out 9
      have hfz5_10 := blk_frozen BK131.out 10
      go_wp2
      go_meet
      case rel => exact ⟨_, (true), (by first | rfl | (simp; done) | (simp [*]; done)), H', ⟨by first | omega | exact Nat.le_refl _⟩, ⟨by (with_reducible repeat (first | refine blk_drewN ?_ _ | refine blk_drew ?_ | refine blk_alloc ?_ _)); exact BK131.out⟩, ⟨by repeat (first | (with_reducible first | exact HB.out | apply below_alloc | apply pw_below_drewN | apply below_drew1 | refine below_set ?_ GE131.out) | exact HB.out)⟩⟩
    · rw [if_neg c4] at H
      have c4b0 : decide (a0_0 < 1) = false := decide_eq_false c4
      clear c4
      (first | rw [c4b0] | (simp only [i64_w, i32_w]; rw [c4b0]) | skip)
      by_cases c6 : a0_0 > 65535
      · rw [if_pos c6] at H
        have c6b0 : decide (65535 < a0_0) = true := decide_eq_true c6
        clear c6
        have H' := Aside0.mk H
        clear H
        have hcz7_0 : w3.cell? ⟨gb131, 0, none⟩ = some (.int .i64 a0_0) := (blk_cell BK131.out 0).trans rfl
        have hcz7_1 : w3.cell? ⟨gb131, 1, none⟩ = some (.int .i64 a0_1) := (blk_cell BK131.out 1).trans rfl
        have hcz7_2 : w3.cell? ⟨gb131, 2, none⟩ = some (.float .f64 a0_2) := (blk_cell BK131.out 2).trans rfl
        have hcz7_3 : w3.cell? ⟨gb131, 3, none⟩ = some (.int .i64 a0_3) := (blk_cell BK131.out 3).trans rfl
        have hcz7_4 : w3.cell? ⟨gb131, 4, none⟩ = some (.int .i64 a0_4) := (blk_cell BK131.out 4).trans rfl
        have hcz7_5 : w3.cell? ⟨gb131, 5, none⟩ = some (.int .i64 a0_5) := (blk_cell BK131.out 5).trans rfl
        have hcz7_6 : w3.cell? ⟨gb131, 6, none⟩ = some (.int .i64 a0_6) := (blk_cell BK131.out 6).trans rfl
        have hcz7_7 : w3.cell? ⟨gb131, 7, none⟩ = some (.int .i64 a0_7) := (blk_cell BK131.out 7).trans rfl
        have hcz7_8 : w3.cell? ⟨gb131, 8, none⟩ = some (.int .i64 a0_8) := (blk_cell BK131.out 8).trans rfl
        have hcz7_9 : w3.cell? ⟨gb131, 9, none⟩ = some (.bool a0_9) := (blk_cell BK131.out 9).trans rfl
        have hcz7_10 : w3.cell? ⟨gb131, 10, none⟩ = some (.bool a0_10) := (blk_cell BK131.out 10).trans rfl
        have hfz7_0 := blk_frozen BK131.out 0
        have hfz7_1 := blk_frozen BK131.out 1
        have hfz7_2 := blk_frozen BK131.out 2
        have hfz7_3 := blk_frozen BK131.out 3
        have hfz7_4 := blk_frozen BK131.out 4
        have hfz7_5 := blk_frozen BK131.out 5
        have hfz7_6 := blk_frozen BK131.out 6
        have hfz7_7 := blk_frozen BK131.out 7
        have hfz7_8 := blk_frozen BK131.out 8
        have hfz7_9 := blk_frozen BK131.out 9
        have hfz7_10 := blk_frozen BK131.out 10
        go_wp2
        go_meet
        case rel => exact ⟨_, (true), (by first | rfl | (simp; done) | (simp [*]; done)), H', ⟨by first | omega | exact Nat.le_refl _⟩, ⟨by (with_reducible repeat (first | refine blk_drewN ?_ _ | refine blk_drew ?_ | refine blk_alloc ?_ _)); exact BK131.out⟩, ⟨by repeat (first | (with_reducible first | exact HB.out | apply below_alloc | apply pw_below_drewN | apply below_drew1 | refine below_set ?_ GE131.out) | exact HB.out)⟩⟩
      · rw [if_neg c6] at H
        have c6b0 : decide (65535 < a0_0) = false := decide_eq_false c6
        clear c6
        by_cases c8 : a0_1 < 0
        · rw [if_pos c8] at H
          have c8b0 : decide (a0_1 < 0) = true := decide_eq_true c8
          clear c8
          have H' := Aside0.mk H
          clear H
          have hcz9_0 : w3.cell? ⟨gb131, 0, none⟩ = some (.int .i64 a0_0) := (blk_cell BK131.out 0).trans rfl
          have hcz9_1 : w3.cell? ⟨gb131, 1, none⟩ = some (.int .i64 a0_1) := (blk_cell BK131.out 1).trans rfl
          have hcz9_2 : w3.cell? ⟨gb131, 2, none⟩ = some (.float .f64 a0_2) := (blk_cell BK131.out 2).trans rfl
          have hcz9_3 : w3.cell? ⟨gb131, 3, none⟩ = some (.int .i64 a0_3) := (blk_cell BK131.out 3).trans rfl
          have hcz9_4 : w3.cell? ⟨gb131, 4, none⟩ = some (.int .i64 a0_4) := (blk_cell BK131.out 4).trans rfl
          have hcz9_5 : w3.cell? ⟨gb131, 5, none⟩ = some (.int .i64 a0_5) := (blk_cell BK131.out 5).trans rfl
          have hcz9_6 : w3.cell? ⟨gb131, 6, none⟩ = some (.int .i64 a0_6) := (blk_cell BK131.out 6).trans rfl
          have hcz9_7 : w3.cell? ⟨gb131, 7, none⟩ = some (.int .i64 a0_7) := (blk_cell BK131.out 7).trans rfl
          have hcz9_8 : w3.cell? ⟨gb131, 8, none⟩ = some (.int .i64 a0_8) := (blk_cell BK131.out 8).trans rfl
          have hcz9_9 : w3.cell? ⟨gb131, 9, none⟩ = some (.bool a0_9) := (blk_cell BK131.out 9).trans rfl
          have hcz9_10 : w3.cell? ⟨gb131, 10, none⟩ = some (.bool a0_10) := (blk_cell BK131.out 10).trans rfl
          have hfz9_0 := blk_frozen BK131.out 0
          have hfz9_1 := blk_frozen BK131.out 1
          have hfz9_2 := blk_frozen BK131.out 2
          have hfz9_3 := blk_frozen BK131.out 3
          have hfz9_4 := blk_frozen BK131.out 4
          have hfz9_5 := blk_frozen BK131.out 5
          have hfz9_6 := blk_frozen BK131.out 6
          have hfz9_7 := blk_frozen BK131.out 7
          have hfz9_8 := blk_frozen BK131.out 8
          have hfz9_9 := blk_frozen BK131.out 9
          have hfz9_10 := blk_frozen BK131.out 10
          go_wp2
          go_meet
          case rel => exact ⟨_, (true), (by first | rfl | (simp; done) | (simp [*]; done)), H', ⟨by first | omega | exact Nat.le_refl _⟩, ⟨by (with_reducible repeat (first | refine blk_drewN ?_ _ | refine blk_drew ?_ | refine blk_alloc ?_ _)); exact BK131.out⟩, ⟨by repeat (first | (with_reducible first | exact HB.out | apply below_alloc | apply pw_below_drewN | apply below_drew1 | refine below_set ?_ GE131.out) | exact HB.out)⟩⟩
        · rw [if_neg c8] at H
          have c8b0 : decide (a0_1 < 0) = false := decide_eq_false c8
          clear c8
          have H' := Aside0.mk H
          clear H
          have hcz10_0 : w3.cell? ⟨gb131, 0, none⟩ = some (.int .i64 a0_0) := (blk_cell BK131.out 0).trans rfl
          have hcz10_1 : w3.cell? ⟨gb131, 1, none⟩ = some (.int .i64 a0_1) := (blk_cell BK131.out 1).trans rfl
          have hcz10_2 : w3.cell? ⟨gb131, 2, none⟩ = some (.float .f64 a0_2) := (blk_cell BK131.out 2).trans rfl
          have hcz10_3 : w3.cell? ⟨gb131, 3, none⟩ = some (.int .i64 a0_3) := (blk_cell BK131.out 3).trans rfl
          have hcz10_4 : w3.cell? ⟨gb131, 4, none⟩ = some (.int .i64 a0_4) := (blk_cell BK131.out 4).trans rfl
          have hcz10_5 : w3.cell? ⟨gb131, 5, none⟩ = some (.int .i64 a0_5) := (blk_cell BK131.out 5).trans rfl
          have hcz10_6 : w3.cell? ⟨gb131, 6, none⟩ = some (.int .i64 a0_6) := (blk_cell BK131.out 6).trans rfl
          have hcz10_7 : w3.cell? ⟨gb131, 7, none⟩ = some (.int .i64 a0_7) := (blk_cell BK131.out 7).trans rfl
          have hcz10_8 : w3.cell? ⟨gb131, 8, none⟩ = some (.int .i64 a0_8) := (blk_cell BK131.out 8).trans rfl
          have hcz10_9 : w3.cell? ⟨gb131, 9, none⟩ = some (.bool a0_9) := (blk_cell BK131.out 9).trans rfl
          have hcz10_10 : w3.cell? ⟨gb131, 10, none⟩ = some (.bool a0_10) := (blk_cell BK131.out 10).trans rfl
          have hfz10_0 := blk_frozen BK131.out 0
          have hfz10_1 := blk_frozen BK131.out 1
          have hfz10_2 := blk_frozen BK131.out 2
          have hfz10_3 := blk_frozen BK131.out 3
          have hfz10_4 := blk_frozen BK131.out 4
          have hfz10_5 := blk_frozen BK131.out 5
          have hfz10_6 := blk_frozen BK131.out 6
          have hfz10_7 := blk_frozen BK131.out 7
          have hfz10_8 := blk_frozen BK131.out 8
          have hfz10_9 := blk_frozen BK131.out 9
          have hfz10_10 := blk_frozen BK131.out 10
          go_wp2
          go_meet
          case rel => exact ⟨_, (decide (a0_1 > 65535)), (by first | rfl | (simp; done) | (simp [*]; done)), H', ⟨by first | omega | exact Nat.le_refl _⟩, ⟨by (with_reducible repeat (first | refine blk_drewN ?_ _ | refine blk_drew ?_ | refine blk_alloc ?_ _)); exact BK131.out⟩, ⟨by repeat (first | (with_reducible first | exact HB.out | apply below_alloc | apply pw_below_drewN | apply below_drew1 | refine below_set ?_ GE131.out) | exact HB.out)⟩⟩
  case rest =>
    clear HC2
    try clear c1
    try clear p2
    try clear c4
    try clear c4b0
    try clear c6
    try clear c6b0
    try clear c8
    try clear c8b0
    try clear hcz10_0
    try clear hcz10_1
    try clear hcz10_10
    try clear hcz10_2
    try clear hcz10_3
    try clear hcz10_4
    try clear hcz10_5
    try clear hcz10_6
    try clear hcz10_7
    try clear hcz10_8
    try clear hcz10_9
    try clear hcz5_0
    try clear hcz5_1
    try clear hcz5_10
    try clear hcz5_2
    try clear hcz5_3
    try clear hcz5_4
    try clear hcz5_5
    try clear hcz5_6
    try clear hcz5_7
    try clear hcz5_8
    try clear hcz5_9
    try clear hcz7_0
    try clear hcz7_1
    try clear hcz7_10
    try clear hcz7_2
    try clear hcz7_3
    try clear hcz7_4
    try clear hcz7_5
    try clear hcz7_6
    try clear hcz7_7
    try clear hcz7_8
    try clear hcz7_9
    try clear hcz9_0
    try clear hcz9_1
    try clear hcz9_10
    try clear hcz9_2
    try clear hcz9_3
    try clear hcz9_4
    try clear hcz9_5
    try clear hcz9_6
    try clear hcz9_7
    try clear hcz9_8
    try clear hcz9_9
    try clear hfz10_0
    try clear hfz10_1
    try clear hfz10_10
    try clear hfz10_2
    try clear hfz10_3
    try clear hfz10_4
    try clear hfz10_5
    try clear hfz10_6
    try clear hfz10_7
    try clear hfz10_8
    try clear hfz10_9
    try clear hfz5_0
    try clear hfz5_1
    try clear hfz5_10
    try clear hfz5_2
    try clear hfz5_3
    try clear hfz5_4
    try clear hfz5_5
    try clear hfz5_6
    try clear hfz5_7
    try clear hfz5_8
    try clear hfz5_9
    try clear hfz7_0
    try clear hfz7_1
    try clear hfz7_10
    try clear hfz7_2
    try clear hfz7_3
    try clear hfz7_4
    try clear hfz7_5
    try clear hfz7_6
    try clear hfz7_7
    try clear hfz7_8
    try clear hfz7_9
    try clear hfz9_0
    try clear hfz9_1
    try clear hfz9_10
    try clear hfz9_2
    try clear hfz9_3
    try clear hfz9_4
    try clear hfz9_5
    try clear hfz9_6
    try clear hfz9_7
    try clear hfz9_8
    try clear hfz9_9
    obtain ⟨kq, x22_1, rfl, HA, HJ1, BK131, HB⟩ := hcut
    cases kq with
    | zero => exact absurd HA.out (by simp [flashlockref17_Right.j0])
    | succ kj1 =>
      have H := HA.out
      clear HA
      simp only [flashlockref17_Right.j0] at H
      by_cases c11 : x22_1 = true
      · subst c11
        have H1 : (some 2) = some r := by rw [if_pos rfl] at H; exact H
        clear H
        have H := H1
        clear H1
        obtain rfl := Option.some.inj H
        go_wp2
        go_ret
        exact ⟨by first | rfl | (simp [errW_none, errW_some] <;> rfl) | (simp [*, errW_none, errW_some] <;> rfl), by repeat (first | (with_reducible first | exact HB.out | apply below_alloc | apply pw_below_drewN | apply below_drew1 | refine below_set ?_ GE131.out) | exact HB.out)⟩
      · replace c11 := Bool.eq_false_iff.mpr c11
        subst c11
        have H1 : (if a0_0 = a0_1 then (some 11) else ((flashlockref03_Units.f a0_2).bind fun bt132 => (if bt132.2 = 21 then (some 21) else (if bt132.2 = 0 then (flashlockref17_Right.j1 kj1 (decide (bt132.1 < 1)) a0_0 a0_1 a0_2 a0_3 a0_4 a0_5 a0_6 a0_7 a0_8 a0_9 a0_10) else (flashlockref17_Right.j1 kj1 true a0_0 a0_1 a0_2 a0_3 a0_4 a0_5 a0_6 a0_7 a0_8 a0_9 a0_10))))) = some r := by rw [if_neg (show ¬ (false = true) by decide)] at H; exact H
        clear H
        have H := H1
        clear H1
        by_cases c12 : a0_0 = a0_1
        · rw [if_pos c12] at H
          have c12b0 : (a0_0 == a0_1) = true := beq_iff_eq.mpr c12
          have c12b1 : (a0_0 != a0_1) = false := bne_eq_false_iff_eq.mpr c12
          clear c12
          obtain rfl := Option.some.inj H
          have hcz13_0 : wc.cell? ⟨gb131, 0, none⟩ = some (.int .i64 a0_0) := (blk_cell BK131.out 0).trans rfl
          have hcz13_1 : wc.cell? ⟨gb131, 1, none⟩ = some (.int .i64 a0_1) := (blk_cell BK131.out 1).trans rfl
          have hcz13_2 : wc.cell? ⟨gb131, 2, none⟩ = some (.float .f64 a0_2) := (blk_cell BK131.out 2).trans rfl
          have hcz13_3 : wc.cell? ⟨gb131, 3, none⟩ = some (.int .i64 a0_3) := (blk_cell BK131.out 3).trans rfl
          have hcz13_4 : wc.cell? ⟨gb131, 4, none⟩ = some (.int .i64 a0_4) := (blk_cell BK131.out 4).trans rfl
          have hcz13_5 : wc.cell? ⟨gb131, 5, none⟩ = some (.int .i64 a0_5) := (blk_cell BK131.out 5).trans rfl
          have hcz13_6 : wc.cell? ⟨gb131, 6, none⟩ = some (.int .i64 a0_6) := (blk_cell BK131.out 6).trans rfl
          have hcz13_7 : wc.cell? ⟨gb131, 7, none⟩ = some (.int .i64 a0_7) := (blk_cell BK131.out 7).trans rfl
          have hcz13_8 : wc.cell? ⟨gb131, 8, none⟩ = some (.int .i64 a0_8) := (blk_cell BK131.out 8).trans rfl
          have hcz13_9 : wc.cell? ⟨gb131, 9, none⟩ = some (.bool a0_9) := (blk_cell BK131.out 9).trans rfl
          have hcz13_10 : wc.cell? ⟨gb131, 10, none⟩ = some (.bool a0_10) := (blk_cell BK131.out 10).trans rfl
          have hfz13_0 := blk_frozen BK131.out 0
          have hfz13_1 := blk_frozen BK131.out 1
          have hfz13_2 := blk_frozen BK131.out 2
          have hfz13_3 := blk_frozen BK131.out 3
          have hfz13_4 := blk_frozen BK131.out 4
          have hfz13_5 := blk_frozen BK131.out 5
          have hfz13_6 := blk_frozen BK131.out 6
          have hfz13_7 := blk_frozen BK131.out 7
          have hfz13_8 := blk_frozen BK131.out 8
          have hfz13_9 := blk_frozen BK131.out 9
          have hfz13_10 := blk_frozen BK131.out 10
          go_wp2
          go_ret
          exact ⟨by first | rfl | (simp [errW_none, errW_some] <;> rfl) | (simp [*, errW_none, errW_some] <;> rfl), by repeat (first | (with_reducible first | exact HB.out | apply below_alloc | apply pw_below_drewN | apply below_drew1 | refine below_set ?_ GE131.out) | exact HB.out)⟩
        · rw [if_neg c12] at H
          have c12b0 : (a0_0 == a0_1) = false := beq_eq_false_iff_ne.mpr c12
          have c12b1 : (a0_0 != a0_1) = true := bne_iff_ne.mpr c12
          replace H := Option.bind_eq_some_iff.mp H
          obtain ⟨⟨t132, t133⟩, A140, H⟩ := H
          replace H : (if t133 = 21 then (some 21) else (if t133 = 0 then (flashlockref17_Right.j1 kj1 (decide (t132 < 1)) a0_0 a0_1 a0_2 a0_3 a0_4 a0_5 a0_6 a0_7 a0_8 a0_9 a0_10) else (flashlockref17_Right.j1 kj1 true a0_0 a0_1 a0_2 a0_3 a0_4 a0_5 a0_6 a0_7 a0_8 a0_9 a0_10))) = some r := H
          have A14 := Aside0.mk A140
          clear A140
          by_cases c15 : t133 = 21
          · rw [if_pos c15] at H
            have c15b0 : (t133 == 21) = true := beq_iff_eq.mpr c15
            have c15b1 : (t133 != 21) = false := bne_eq_false_iff_eq.mpr c15
            clear c15
            obtain rfl := Option.some.inj H
            have hcz16_0 : wc.cell? ⟨gb131, 0, none⟩ = some (.int .i64 a0_0) := (blk_cell BK131.out 0).trans rfl
            have hcz16_1 : wc.cell? ⟨gb131, 1, none⟩ = some (.int .i64 a0_1) := (blk_cell BK131.out 1).trans rfl
            have hcz16_2 : wc.cell? ⟨gb131, 2, none⟩ = some (.float .f64 a0_2) := (blk_cell BK131.out 2).trans rfl
            have hcz16_3 : wc.cell? ⟨gb131, 3, none⟩ = some (.int .i64 a0_3) := (blk_cell BK131.out 3).trans rfl
            have hcz16_4 : wc.cell? ⟨gb131, 4, none⟩ = some (.int .i64 a0_4) := (blk_cell BK131.out 4).trans rfl
            have hcz16_5 : wc.cell? ⟨gb131, 5, none⟩ = some (.int .i64 a0_5) := (blk_cell BK131.out 5).trans rfl
            have hcz16_6 : wc.cell? ⟨gb131, 6, none⟩ = some (.int .i64 a0_6) := (blk_cell BK131.out 6).trans rfl
            have hcz16_7 : wc.cell? ⟨gb131, 7, none⟩ = some (.int .i64 a0_7) := (blk_cell BK131.out 7).trans rfl
            have hcz16_8 : wc.cell? ⟨gb131, 8, none⟩ = some (.int .i64 a0_8) := (blk_cell BK131.out 8).trans rfl
            have hcz16_9 : wc.cell? ⟨gb131, 9, none⟩ = some (.bool a0_9) := (blk_cell BK131.out 9).trans rfl
            have hcz16_10 : wc.cell? ⟨gb131, 10, none⟩ = some (.bool a0_10) := (blk_cell BK131.out 10).trans rfl
            have hfz16_0 := blk_frozen BK131.out 0
            have hfz16_1 := blk_frozen BK131.out 1
            have hfz16_2 := blk_frozen BK131.out 2
            have hfz16_3 := blk_frozen BK131.out 3
            have hfz16_4 := blk_frozen BK131.out 4
            have hfz16_5 := blk_frozen BK131.out 5
            have hfz16_6 := blk_frozen BK131.out 6
            have hfz16_7 := blk_frozen BK131.out 7
            have hfz16_8 := blk_frozen BK131.out 8
            have hfz16_9 := blk_frozen BK131.out 9
            have hfz16_10 := blk_frozen BK131.out 10
            go_wp2_with (first | ((with_reducible refine gate_callee (f := 77) rfl ?_); refine goesL_ (some 31) rfl rfl Try.func77 (by kernel_rfl) rfl #[.float .f64 a0_2] rfl (by (try simp only [List.map_toArray, List.map_cons, List.map_nil]); first | done | rfl | (simp only [List.length_drop, List.length_take]; rfl)) ?_; (with_reducible refine (flashlockref03_Units.calls a0_2 t132 t133 _ A14.out).mono ?_); rintro e w' ⟨rfl, ⟨nd, rfl⟩⟩; refine ⟨_, rfl, ?_⟩))
            go_ret
            exact ⟨by first | rfl | (simp [errW_none, errW_some] <;> rfl) | (simp [*, errW_none, errW_some] <;> rfl), by repeat (first | (with_reducible first | exact HB.out | apply below_alloc | apply pw_below_drewN | apply below_drew1 | refine below_set ?_ GE131.out) | exact HB.out)⟩
          · rw [if_neg c15] at H
            have c15b0 : (t133 == 21) = false := beq_eq_false_iff_ne.mpr c15
            have c15b1 : (t133 != 21) = true := bne_iff_ne.mpr c15
            have HC17 := Aside0.mk H
            clear H
            have hcz18_0 : wc.cell? ⟨gb131, 0, none⟩ = some (.int .i64 a0_0) := (blk_cell BK131.out 0).trans rfl
            have hcz18_1 : wc.cell? ⟨gb131, 1, none⟩ = some (.int .i64 a0_1) := (blk_cell BK131.out 1).trans rfl
            have hcz18_2 : wc.cell? ⟨gb131, 2, none⟩ = some (.float .f64 a0_2) := (blk_cell BK131.out 2).trans rfl
            have hcz18_3 : wc.cell? ⟨gb131, 3, none⟩ = some (.int .i64 a0_3) := (blk_cell BK131.out 3).trans rfl
            have hcz18_4 : wc.cell? ⟨gb131, 4, none⟩ = some (.int .i64 a0_4) := (blk_cell BK131.out 4).trans rfl
            have hcz18_5 : wc.cell? ⟨gb131, 5, none⟩ = some (.int .i64 a0_5) := (blk_cell BK131.out 5).trans rfl
            have hcz18_6 : wc.cell? ⟨gb131, 6, none⟩ = some (.int .i64 a0_6) := (blk_cell BK131.out 6).trans rfl
            have hcz18_7 : wc.cell? ⟨gb131, 7, none⟩ = some (.int .i64 a0_7) := (blk_cell BK131.out 7).trans rfl
            have hcz18_8 : wc.cell? ⟨gb131, 8, none⟩ = some (.int .i64 a0_8) := (blk_cell BK131.out 8).trans rfl
            have hcz18_9 : wc.cell? ⟨gb131, 9, none⟩ = some (.bool a0_9) := (blk_cell BK131.out 9).trans rfl
            have hcz18_10 : wc.cell? ⟨gb131, 10, none⟩ = some (.bool a0_10) := (blk_cell BK131.out 10).trans rfl
            have hfz18_0 := blk_frozen BK131.out 0
            have hfz18_1 := blk_frozen BK131.out 1
            have hfz18_2 := blk_frozen BK131.out 2
            have hfz18_3 := blk_frozen BK131.out 3
            have hfz18_4 := blk_frozen BK131.out 4
            have hfz18_5 := blk_frozen BK131.out 5
            have hfz18_6 := blk_frozen BK131.out 6
            have hfz18_7 := blk_frozen BK131.out 7
            have hfz18_8 := blk_frozen BK131.out 8
            have hfz18_9 := blk_frozen BK131.out 9
            have hfz18_10 := blk_frozen BK131.out 10
            go_upto_region 8 with (first | ((with_reducible refine gate_callee (f := 77) rfl ?_); refine goesL_ (some 31) rfl rfl Try.func77 (by kernel_rfl) rfl #[.float .f64 a0_2] rfl (by (try simp only [List.map_toArray, List.map_cons, List.map_nil]); first | done | rfl | (simp only [List.length_drop, List.length_take]; rfl)) ?_; (with_reducible refine (flashlockref03_Units.calls a0_2 t132 t133 _ A14.out).mono ?_); rintro e w' ⟨rfl, ⟨nd, rfl⟩⟩; refine ⟨_, rfl, ?_⟩))
            (try simp only [Act.put, List.setIfInBounds_toArray, List.set_cons_zero, List.set_cons_succ])
            go_cut [41] (fun v41 wc => ∃ (kq : Nat) (x41_16 : Bool), v41 = .bool x41_16 ∧ Aside0 (flashlockref17_Right.j1 kq x41_16 a0_0 a0_1 a0_2 a0_3 a0_4 a0_5 a0_6 a0_7 a0_8 a0_9 a0_10 = some r) ∧ Aside0 (kq ≤ kj1) ∧ Aside0 (wc.heap[gb131]? = some (.cells #[.int .i64 a0_0, .int .i64 a0_1, .float .f64 a0_2, .int .i64 a0_3, .int .i64 a0_4, .int .i64 a0_5, .int .i64 a0_6, .int .i64 a0_7, .int .i64 a0_8, .bool a0_9, .bool a0_10] 95 (0, 0))) ∧ Aside0 (Below w.heap.size w wc))
            case first =>
              have H := HC17.out
              clear HC17
              by_cases c19 : t133 = 0
              · rw [if_pos c19] at H
                have c19b0 : (t133 == 0) = true := beq_iff_eq.mpr c19
                have c19b1 : (t133 != 0) = false := bne_eq_false_iff_eq.mpr c19
                clear c19
                (first | rw [c19b0] | (simp only [i64_w, i32_w]; rw [c19b0]) | skip)
                have H' := Aside0.mk H
                clear H
                go_wp2
                go_meet
                case rel => exact ⟨_, (decide (t132 < 1)), (by first | rfl | (simp; done) | (simp [*]; done)), H', ⟨by have := HJ1.out; first | omega | exact Nat.le_refl _⟩, ⟨by (with_reducible repeat (first | refine blk_drewN ?_ _ | refine blk_drew ?_ | refine blk_alloc ?_ _)); exact BK131.out⟩, ⟨by repeat (first | (with_reducible first | exact HB.out | apply below_alloc | apply pw_below_drewN | apply below_drew1 | refine below_set ?_ GE131.out) | exact HB.out)⟩⟩
              · rw [if_neg c19] at H
                have c19b0 : (t133 == 0) = false := beq_eq_false_iff_ne.mpr c19
                have c19b1 : (t133 != 0) = true := bne_iff_ne.mpr c19
                (first | rw [c19b0] | (simp only [i64_w, i32_w]; rw [c19b0]) | skip)
                have H' := Aside0.mk H
                clear H
                go_wp2
                go_meet
                case rel => exact ⟨_, (true), (by first | rfl | (simp; done) | (simp [*]; done)), H', ⟨by have := HJ1.out; first | omega | exact Nat.le_refl _⟩, ⟨by (with_reducible repeat (first | refine blk_drewN ?_ _ | refine blk_drew ?_ | refine blk_alloc ?_ _)); exact BK131.out⟩, ⟨by repeat (first | (with_reducible first | exact HB.out | apply below_alloc | apply pw_below_drewN | apply below_drew1 | refine below_set ?_ GE131.out) | exact HB.out)⟩⟩
            case rest =>
              clear HC17
              try clear c1
              try clear p2
              try clear c4
              try clear c4b0
              try clear c6
              try clear c6b0
              try clear c7
              try clear c8
              try clear c8b0
              try clear c11
              try clear c12
              try clear c12b0
              try clear c12b1
              try clear c14
              try clear c15
              try clear c15b0
              try clear c15b1
              try clear c19
              try clear c19b0
              try clear c19b1
              try clear hcz10_0
              try clear hcz10_1
              try clear hcz10_10
              try clear hcz10_2
              try clear hcz10_3
              try clear hcz10_4
              try clear hcz10_5
              try clear hcz10_6
              try clear hcz10_7
              try clear hcz10_8
              try clear hcz10_9
              try clear hcz13_0
              try clear hcz13_1
              try clear hcz13_10
              try clear hcz13_2
              try clear hcz13_3
              try clear hcz13_4
              try clear hcz13_5
              try clear hcz13_6
              try clear hcz13_7
              try clear hcz13_8
              try clear hcz13_9
              try clear hcz16_0
              try clear hcz16_1
              try clear hcz16_10
              try clear hcz16_2
              try clear hcz16_3
              try clear hcz16_4
              try clear hcz16_5
              try clear hcz16_6
              try clear hcz16_7
              try clear hcz16_8
              try clear hcz16_9
              try clear hcz18_0
              try clear hcz18_1
              try clear hcz18_10
              try clear hcz18_2
              try clear hcz18_3
              try clear hcz18_4
              try clear hcz18_5
              try clear hcz18_6
              try clear hcz18_7
              try clear hcz18_8
              try clear hcz18_9
              try clear hcz5_0
              try clear hcz5_1
              try clear hcz5_10
              try clear hcz5_2
              try clear hcz5_3
              try clear hcz5_4
              try clear hcz5_5
              try clear hcz5_6
              try clear hcz5_7
              try clear hcz5_8
              try clear hcz5_9
              try clear hcz7_0
              try clear hcz7_1
              try clear hcz7_10
              try clear hcz7_2
              try clear hcz7_3
              try clear hcz7_4
              try clear hcz7_5
              try clear hcz7_6
              try clear hcz7_7
              try clear hcz7_8
              try clear hcz7_9
              try clear hcz9_0
              try clear hcz9_1
              try clear hcz9_10
              try clear hcz9_2
              try clear hcz9_3
              try clear hcz9_4
              try clear hcz9_5
              try clear hcz9_6
              try clear hcz9_7
              try clear hcz9_8
              try clear hcz9_9
              try clear hfz10_0
              try clear hfz10_1
              try clear hfz10_10
              try clear hfz10_2
              try clear hfz10_3
              try clear hfz10_4
              try clear hfz10_5
              try clear hfz10_6
              try clear hfz10_7
              try clear hfz10_8
              try clear hfz10_9
              try clear hfz13_0
              try clear hfz13_1
              try clear hfz13_10
              try clear hfz13_2
              try clear hfz13_3
              try clear hfz13_4
              try clear hfz13_5
              try clear hfz13_6
              try clear hfz13_7
              try clear hfz13_8
              try clear hfz13_9
              try clear hfz16_0
              try clear hfz16_1
              try clear hfz16_10
              try clear hfz16_2
              try clear hfz16_3
              try clear hfz16_4
              try clear hfz16_5
              try clear hfz16_6
              try clear hfz16_7
              try clear hfz16_8
              try clear hfz16_9
              try clear hfz18_0
              try clear hfz18_1
              try clear hfz18_10
              try clear hfz18_2
              try clear hfz18_3
              try clear hfz18_4
              try clear hfz18_5
              try clear hfz18_6
              try clear hfz18_7
              try clear hfz18_8
              try clear hfz18_9
              try clear hfz5_0
              try clear hfz5_1
              try clear hfz5_10
              try clear hfz5_2
              try clear hfz5_3
              try clear hfz5_4
              try clear hfz5_5
              try clear hfz5_6
              try clear hfz5_7
              try clear hfz5_8
              try clear hfz5_9
              try clear hfz7_0
              try clear hfz7_1
              try clear hfz7_10
              try clear hfz7_2
              try clear hfz7_3
              try clear hfz7_4
              try clear hfz7_5
              try clear hfz7_6
              try clear hfz7_7
              try clear hfz7_8
              try clear hfz7_9
              try clear hfz9_0
              try clear hfz9_1
              try clear hfz9_10
              try clear hfz9_2
              try clear hfz9_3
              try clear hfz9_4
              try clear hfz9_5
              try clear hfz9_6
              try clear hfz9_7
              try clear hfz9_8
              try clear hfz9_9
              try clear p2
              obtain ⟨kq, x41_16, rfl, HA, HJ16, BK131, HB⟩ := hcut
              cases kq with
              | zero => exact absurd HA.out (by simp [flashlockref17_Right.j1])
              | succ kj16 =>
                have H := HA.out
                clear HA
                simp only [flashlockref17_Right.j1] at H
                by_cases c20 : x41_16 = true
                · subst c20
                  have H1 : (some 13) = some r := by rw [if_pos rfl] at H; exact H
                  clear H
                  have H := H1
                  clear H1
                  obtain rfl := Option.some.inj H
                  go_wp2
                  go_ret
                  exact ⟨by first | rfl | (simp [errW_none, errW_some] <;> rfl) | (simp [*, errW_none, errW_some] <;> rfl), by repeat (first | (with_reducible first | exact HB.out | apply below_alloc | apply pw_below_drewN | apply below_drew1 | refine below_set ?_ GE131.out) | exact HB.out)⟩
                · replace c20 := Bool.eq_false_iff.mpr c20
                  subst c20
                  have H1 : (if a0_3 < 0 then (flashlockref17_Right.j2 kj16 true a0_0 a0_1 a0_2 a0_3 a0_4 a0_5 a0_6 a0_7 a0_8 a0_9 a0_10) else (flashlockref17_Right.j2 kj16 (decide (a0_3 > 7)) a0_0 a0_1 a0_2 a0_3 a0_4 a0_5 a0_6 a0_7 a0_8 a0_9 a0_10)) = some r := by rw [if_neg (show ¬ (false = true) by decide)] at H; exact H
                  clear H
                  have H := H1
                  clear H1
                  have HC21 := Aside0.mk H
                  clear H
                  go_upto_region 10 with (fail)
                  go_cut [49] (fun v49 wc => ∃ (kq : Nat) (x49_20 : Bool), v49 = .bool x49_20 ∧ Aside0 (flashlockref17_Right.j2 kq x49_20 a0_0 a0_1 a0_2 a0_3 a0_4 a0_5 a0_6 a0_7 a0_8 a0_9 a0_10 = some r) ∧ Aside0 (kq ≤ kj16) ∧ Aside0 (wc.heap[gb131]? = some (.cells #[.int .i64 a0_0, .int .i64 a0_1, .float .f64 a0_2, .int .i64 a0_3, .int .i64 a0_4, .int .i64 a0_5, .int .i64 a0_6, .int .i64 a0_7, .int .i64 a0_8, .bool a0_9, .bool a0_10] 95 (0, 0))) ∧ Aside0 (Below w.heap.size w wc))
                  case first =>
                    have H := HC21.out
                    clear HC21
                    by_cases c22 : a0_3 < 0
                    · rw [if_pos c22] at H
                      have c22b0 : decide (a0_3 < 0) = true := decide_eq_true c22
                      clear c22
                      (first | rw [c22b0] | (simp only [i64_w, i32_w]; rw [c22b0]) | skip)
                      have H' := Aside0.mk H
                      clear H
                      have hcz23_0 : wc.cell? ⟨gb131, 0, none⟩ = some (.int .i64 a0_0) := (blk_cell BK131.out 0).trans rfl
                      have hcz23_1 : wc.cell? ⟨gb131, 1, none⟩ = some (.int .i64 a0_1) := (blk_cell BK131.out 1).trans rfl
                      have hcz23_2 : wc.cell? ⟨gb131, 2, none⟩ = some (.float .f64 a0_2) := (blk_cell BK131.out 2).trans rfl
                      have hcz23_3 : wc.cell? ⟨gb131, 3, none⟩ = some (.int .i64 a0_3) := (blk_cell BK131.out 3).trans rfl
                      have hcz23_4 : wc.cell? ⟨gb131, 4, none⟩ = some (.int .i64 a0_4) := (blk_cell BK131.out 4).trans rfl
                      have hcz23_5 : wc.cell? ⟨gb131, 5, none⟩ = some (.int .i64 a0_5) := (blk_cell BK131.out 5).trans rfl
                      have hcz23_6 : wc.cell? ⟨gb131, 6, none⟩ = some (.int .i64 a0_6) := (blk_cell BK131.out 6).trans rfl
                      have hcz23_7 : wc.cell? ⟨gb131, 7, none⟩ = some (.int .i64 a0_7) := (blk_cell BK131.out 7).trans rfl
                      have hcz23_8 : wc.cell? ⟨gb131, 8, none⟩ = some (.int .i64 a0_8) := (blk_cell BK131.out 8).trans rfl
                      have hcz23_9 : wc.cell? ⟨gb131, 9, none⟩ = some (.bool a0_9) := (blk_cell BK131.out 9).trans rfl
                      have hcz23_10 : wc.cell? ⟨gb131, 10, none⟩ = some (.bool a0_10) := (blk_cell BK131.out 10).trans rfl
                      have hfz23_0 := blk_frozen BK131.out 0
                      have hfz23_1 := blk_frozen BK131.out 1
                      have hfz23_2 := blk_frozen BK131.out 2
                      have hfz23_3 := blk_frozen BK131.out 3
                      have hfz23_4 := blk_frozen BK131.out 4
                      have hfz23_5 := blk_frozen BK131.out 5
                      have hfz23_6 := blk_frozen BK131.out 6
                      have hfz23_7 := blk_frozen BK131.out 7
                      have hfz23_8 := blk_frozen BK131.out 8
                      have hfz23_9 := blk_frozen BK131.out 9
                      have hfz23_10 := blk_frozen BK131.out 10
                      go_wp2
                      go_meet
                      case rel => exact ⟨_, (true), (by first | rfl | (simp; done) | (simp [*]; done)), H', ⟨by have := HJ1.out; have := HJ16.out; first | omega | exact Nat.le_refl _⟩, ⟨by (with_reducible repeat (first | refine blk_drewN ?_ _ | refine blk_drew ?_ | refine blk_alloc ?_ _)); exact BK131.out⟩, ⟨by repeat (first | (with_reducible first | exact HB.out | apply below_alloc | apply pw_below_drewN | apply below_drew1 | refine below_set ?_ GE131.out) | exact HB.out)⟩⟩
                    · rw [if_neg c22] at H
                      have c22b0 : decide (a0_3 < 0) = false := decide_eq_false c22
                      clear c22
                      (first | rw [c22b0] | (simp only [i64_w, i32_w]; rw [c22b0]) | skip)
                      have H' := Aside0.mk H
                      clear H
                      have hcz24_0 : wc.cell? ⟨gb131, 0, none⟩ = some (.int .i64 a0_0) := (blk_cell BK131.out 0).trans rfl
                      have hcz24_1 : wc.cell? ⟨gb131, 1, none⟩ = some (.int .i64 a0_1) := (blk_cell BK131.out 1).trans rfl
                      have hcz24_2 : wc.cell? ⟨gb131, 2, none⟩ = some (.float .f64 a0_2) := (blk_cell BK131.out 2).trans rfl
                      have hcz24_3 : wc.cell? ⟨gb131, 3, none⟩ = some (.int .i64 a0_3) := (blk_cell BK131.out 3).trans rfl
                      have hcz24_4 : wc.cell? ⟨gb131, 4, none⟩ = some (.int .i64 a0_4) := (blk_cell BK131.out 4).trans rfl
                      have hcz24_5 : wc.cell? ⟨gb131, 5, none⟩ = some (.int .i64 a0_5) := (blk_cell BK131.out 5).trans rfl
                      have hcz24_6 : wc.cell? ⟨gb131, 6, none⟩ = some (.int .i64 a0_6) := (blk_cell BK131.out 6).trans rfl
                      have hcz24_7 : wc.cell? ⟨gb131, 7, none⟩ = some (.int .i64 a0_7) := (blk_cell BK131.out 7).trans rfl
                      have hcz24_8 : wc.cell? ⟨gb131, 8, none⟩ = some (.int .i64 a0_8) := (blk_cell BK131.out 8).trans rfl
                      have hcz24_9 : wc.cell? ⟨gb131, 9, none⟩ = some (.bool a0_9) := (blk_cell BK131.out 9).trans rfl
                      have hcz24_10 : wc.cell? ⟨gb131, 10, none⟩ = some (.bool a0_10) := (blk_cell BK131.out 10).trans rfl
                      have hfz24_0 := blk_frozen BK131.out 0
                      have hfz24_1 := blk_frozen BK131.out 1
                      have hfz24_2 := blk_frozen BK131.out 2
                      have hfz24_3 := blk_frozen BK131.out 3
                      have hfz24_4 := blk_frozen BK131.out 4
                      have hfz24_5 := blk_frozen BK131.out 5
                      have hfz24_6 := blk_frozen BK131.out 6
                      have hfz24_7 := blk_frozen BK131.out 7
                      have hfz24_8 := blk_frozen BK131.out 8
                      have hfz24_9 := blk_frozen BK131.out 9
                      have hfz24_10 := blk_frozen BK131.out 10
                      go_wp2
                      go_meet
                      case rel => exact ⟨_, (decide (a0_3 > 7)), (by first | rfl | (simp; done) | (simp [*]; done)), H', ⟨by have := HJ1.out; have := HJ16.out; first | omega | exact Nat.le_refl _⟩, ⟨by (with_reducible repeat (first | refine blk_drewN ?_ _ | refine blk_drew ?_ | refine blk_alloc ?_ _)); exact BK131.out⟩, ⟨by repeat (first | (with_reducible first | exact HB.out | apply below_alloc | apply pw_below_drewN | apply below_drew1 | refine below_set ?_ GE131.out) | exact HB.out)⟩⟩
                  case rest =>
                    clear HC21
                    try clear c1
                    try clear c2
                    try clear p2
                    try clear c4
                    try clear c4b0
                    try clear c6
                    try clear c6b0
                    try clear c7
                    try clear c8
                    try clear c8b0
                    try clear c11
                    try clear c12
                    try clear c12b0
                    try clear c12b1
                    try clear c14
                    try clear c15
                    try clear c15b0
                    try clear c15b1
                    try clear c19
                    try clear c19b0
                    try clear c19b1
                    try clear c20
                    try clear c22
                    try clear c22b0
                    try clear hcz10_0
                    try clear hcz10_1
                    try clear hcz10_10
                    try clear hcz10_2
                    try clear hcz10_3
                    try clear hcz10_4
                    try clear hcz10_5
                    try clear hcz10_6
                    try clear hcz10_7
                    try clear hcz10_8
                    try clear hcz10_9
                    try clear hcz13_0
                    try clear hcz13_1
                    try clear hcz13_10
                    try clear hcz13_2
                    try clear hcz13_3
                    try clear hcz13_4
                    try clear hcz13_5
                    try clear hcz13_6
                    try clear hcz13_7
                    try clear hcz13_8
                    try clear hcz13_9
                    try clear hcz16_0
                    try clear hcz16_1
                    try clear hcz16_10
                    try clear hcz16_2
                    try clear hcz16_3
                    try clear hcz16_4
                    try clear hcz16_5
                    try clear hcz16_6
                    try clear hcz16_7
                    try clear hcz16_8
                    try clear hcz16_9
                    try clear hcz18_0
                    try clear hcz18_1
                    try clear hcz18_10
                    try clear hcz18_2
                    try clear hcz18_3
                    try clear hcz18_4
                    try clear hcz18_5
                    try clear hcz18_6
                    try clear hcz18_7
                    try clear hcz18_8
                    try clear hcz18_9
                    try clear hcz23_0
                    try clear hcz23_1
                    try clear hcz23_10
                    try clear hcz23_2
                    try clear hcz23_3
                    try clear hcz23_4
                    try clear hcz23_5
                    try clear hcz23_6
                    try clear hcz23_7
                    try clear hcz23_8
                    try clear hcz23_9
                    try clear hcz24_0
                    try clear hcz24_1
                    try clear hcz24_10
                    try clear hcz24_2
                    try clear hcz24_3
                    try clear hcz24_4
                    try clear hcz24_5
                    try clear hcz24_6
                    try clear hcz24_7
                    try clear hcz24_8
                    try clear hcz24_9
                    try clear hcz5_0
                    try clear hcz5_1
                    try clear hcz5_10
                    try clear hcz5_2
                    try clear hcz5_3
                    try clear hcz5_4
                    try clear hcz5_5
                    try clear hcz5_6
                    try clear hcz5_7
                    try clear hcz5_8
                    try clear hcz5_9
                    try clear hcz7_0
                    try clear hcz7_1
                    try clear hcz7_10
                    try clear hcz7_2
                    try clear hcz7_3
                    try clear hcz7_4
                    try clear hcz7_5
                    try clear hcz7_6
                    try clear hcz7_7
                    try clear hcz7_8
                    try clear hcz7_9
                    try clear hcz9_0
                    try clear hcz9_1
                    try clear hcz9_10
                    try clear hcz9_2
                    try clear hcz9_3
                    try clear hcz9_4
                    try clear hcz9_5
                    try clear hcz9_6
                    try clear hcz9_7
                    try clear hcz9_8
                    try clear hcz9_9
                    try clear hfz10_0
                    try clear hfz10_1
                    try clear hfz10_10
                    try clear hfz10_2
                    try clear hfz10_3
                    try clear hfz10_4
                    try clear hfz10_5
                    try clear hfz10_6
                    try clear hfz10_7
                    try clear hfz10_8
                    try clear hfz10_9
                    try clear hfz13_0
                    try clear hfz13_1
                    try clear hfz13_10
                    try clear hfz13_2
                    try clear hfz13_3
                    try clear hfz13_4
                    try clear hfz13_5
                    try clear hfz13_6
                    try clear hfz13_7
                    try clear hfz13_8
                    try clear hfz13_9
                    try clear hfz16_0
                    try clear hfz16_1
                    try clear hfz16_10
                    try clear hfz16_2
                    try clear hfz16_3
                    try clear hfz16_4
                    try clear hfz16_5
                    try clear hfz16_6
                    try clear hfz16_7
                    try clear hfz16_8
                    try clear hfz16_9
                    try clear hfz18_0
                    try clear hfz18_1
                    try clear hfz18_10
                    try clear hfz18_2
                    try clear hfz18_3
                    try clear hfz18_4
                    try clear hfz18_5
                    try clear hfz18_6
                    try clear hfz18_7
                    try clear hfz18_8
                    try clear hfz18_9
                    try clear hfz23_0
                    try clear hfz23_1
                    try clear hfz23_10
                    try clear hfz23_2
                    try clear hfz23_3
                    try clear hfz23_4
                    try clear hfz23_5
                    try clear hfz23_6
                    try clear hfz23_7
                    try clear hfz23_8
                    try clear hfz23_9
                    try clear hfz24_0
                    try clear hfz24_1
                    try clear hfz24_10
                    try clear hfz24_2
                    try clear hfz24_3
                    try clear hfz24_4
                    try clear hfz24_5
                    try clear hfz24_6
                    try clear hfz24_7
                    try clear hfz24_8
                    try clear hfz24_9
                    try clear hfz5_0
                    try clear hfz5_1
                    try clear hfz5_10
                    try clear hfz5_2
                    try clear hfz5_3
                    try clear hfz5_4
                    try clear hfz5_5
                    try clear hfz5_6
                    try clear hfz5_7
                    try clear hfz5_8
                    try clear hfz5_9
                    try clear hfz7_0
                    try clear hfz7_1
                    try clear hfz7_10
                    try clear hfz7_2
                    try clear hfz7_3
                    try clear hfz7_4
                    try clear hfz7_5
                    try clear hfz7_6
                    try clear hfz7_7
                    try clear hfz7_8
                    try clear hfz7_9
                    try clear hfz9_0
                    try clear hfz9_1
                    try clear hfz9_10
                    try clear hfz9_2
                    try clear hfz9_3
                    try clear hfz9_4
                    try clear hfz9_5
                    try clear hfz9_6
                    try clear hfz9_7
                    try clear hfz9_8
                    try clear hfz9_9
                    try clear p2
                    obtain ⟨kq, x49_20, rfl, HA, HJ20, BK131, HB⟩ := hcut
                    cases kq with
                    | zero => exact absurd HA.out (by simp [flashlockref17_Right.j2])
                    | succ kj20 =>
                      have H := HA.out
                      clear HA
                      simp only [flashlockref17_Right.j2] at H
                      by_cases c25 : x49_20 = true
                      · subst c25
                        have H1 : (some 14) = some r := by rw [if_pos rfl] at H; exact H
                        clear H
                        have H := H1
                        clear H1
                        obtain rfl := Option.some.inj H
                        go_wp2
                        go_ret
                        exact ⟨by first | rfl | (simp [errW_none, errW_some] <;> rfl) | (simp [*, errW_none, errW_some] <;> rfl), by repeat (first | (with_reducible first | exact HB.out | apply below_alloc | apply pw_below_drewN | apply below_drew1 | refine below_set ?_ GE131.out) | exact HB.out)⟩
                      · replace c25 := Bool.eq_false_iff.mpr c25
                        subst c25
                        have H1 : (if a0_4 < 1 then (flashlockref17_Right.j3 kj20 true a0_0 a0_1 a0_2 a0_3 a0_4 a0_5 a0_6 a0_7 a0_8 a0_9 a0_10) else (if a0_4 > 65536 then (flashlockref17_Right.j3 kj20 true a0_0 a0_1 a0_2 a0_3 a0_4 a0_5 a0_6 a0_7 a0_8 a0_9 a0_10) else (if a0_5 < 1 then (flashlockref17_Right.j3 kj20 true a0_0 a0_1 a0_2 a0_3 a0_4 a0_5 a0_6 a0_7 a0_8 a0_9 a0_10) else (flashlockref17_Right.j3 kj20 (decide (a0_5 > 1024)) a0_0 a0_1 a0_2 a0_3 a0_4 a0_5 a0_6 a0_7 a0_8 a0_9 a0_10)))) = some r := by rw [if_neg (show ¬ (false = true) by decide)] at H; exact H
                        clear H
                        have H := H1
                        clear H1
                        have HC26 := Aside0.mk H
                        clear H
                        go_upto_region 12 with (fail)
                        go_cut [67] (fun v67 wc => ∃ (kq : Nat) (x67_25 : Bool), v67 = .bool x67_25 ∧ Aside0 (flashlockref17_Right.j3 kq x67_25 a0_0 a0_1 a0_2 a0_3 a0_4 a0_5 a0_6 a0_7 a0_8 a0_9 a0_10 = some r) ∧ Aside0 (kq ≤ kj20) ∧ Aside0 (wc.heap[gb131]? = some (.cells #[.int .i64 a0_0, .int .i64 a0_1, .float .f64 a0_2, .int .i64 a0_3, .int .i64 a0_4, .int .i64 a0_5, .int .i64 a0_6, .int .i64 a0_7, .int .i64 a0_8, .bool a0_9, .bool a0_10] 95 (0, 0))) ∧ Aside0 (Below w.heap.size w wc))
                        case first =>
                          have H := HC26.out
                          clear HC26
                          by_cases c27 : a0_4 < 1
                          · rw [if_pos c27] at H
                            have c27b0 : decide (a0_4 < 1) = true := decide_eq_true c27
                            clear c27
                            (first | rw [c27b0] | (simp only [i64_w, i32_w]; rw [c27b0]) | skip)
                            have H' := Aside0.mk H
                            clear H
                            have hcz28_0 : wc.cell? ⟨gb131, 0, none⟩ = some (.int .i64 a0_0) := (blk_cell BK131.out 0).trans rfl
                            have hcz28_1 : wc.cell? ⟨gb131, 1, none⟩ = some (.int .i64 a0_1) := (blk_cell BK131.out 1).trans rfl
                            have hcz28_2 : wc.cell? ⟨gb131, 2, none⟩ = some (.float .f64 a0_2) := (blk_cell BK131.out 2).trans rfl
                            have hcz28_3 : wc.cell? ⟨gb131, 3, none⟩ = some (.int .i64 a0_3) := (blk_cell BK131.out 3).trans rfl
                            have hcz28_4 : wc.cell? ⟨gb131, 4, none⟩ = some (.int .i64 a0_4) := (blk_cell BK131.out 4).trans rfl
                            have hcz28_5 : wc.cell? ⟨gb131, 5, none⟩ = some (.int .i64 a0_5) := (blk_cell BK131.out 5).trans rfl
                            have hcz28_6 : wc.cell? ⟨gb131, 6, none⟩ = some (.int .i64 a0_6) := (blk_cell BK131.out 6).trans rfl
                            have hcz28_7 : wc.cell? ⟨gb131, 7, none⟩ = some (.int .i64 a0_7) := (blk_cell BK131.out 7).trans rfl
                            have hcz28_8 : wc.cell? ⟨gb131, 8, none⟩ = some (.int .i64 a0_8) := (blk_cell BK131.out 8).trans rfl
                            have hcz28_9 : wc.cell? ⟨gb131, 9, none⟩ = some (.bool a0_9) := (blk_cell BK131.out 9).trans rfl
                            have hcz28_10 : wc.cell? ⟨gb131, 10, none⟩ = some (.bool a0_10) := (blk_cell BK131.out 10).trans rfl
                            have hfz28_0 := blk_frozen BK131.out 0
                            have hfz28_1 := blk_frozen BK131.out 1
                            have hfz28_2 := blk_frozen BK131.out 2
                            have hfz28_3 := blk_frozen BK131.out 3
                            have hfz28_4 := blk_frozen BK131.out 4
                            have hfz28_5 := blk_frozen BK131.out 5
                            have hfz28_6 := blk_frozen BK131.out 6
                            have hfz28_7 := blk_frozen BK131.out 7
                            have hfz28_8 := blk_frozen BK131.out 8
                            have hfz28_9 := blk_frozen BK131.out 9
                            have hfz28_10 := blk_frozen BK131.out 10
                            go_wp2
                            go_meet
                            case rel => exact ⟨_, (true), (by first | rfl | (simp; done) | (simp [*]; done)), H', ⟨by have := HJ1.out; have := HJ16.out; have := HJ20.out; first | omega | exact Nat.le_refl _⟩, ⟨by (with_reducible repeat (first | refine blk_drewN ?_ _ | refine blk_drew ?_ | refine blk_alloc ?_ _)); exact BK131.out⟩, ⟨by repeat (first | (with_reducible first | exact HB.out | apply below_alloc | apply pw_below_drewN | apply below_drew1 | refine below_set ?_ GE131.out) | exact HB.out)⟩⟩
                          · rw [if_neg c27] at H
                            have c27b0 : decide (a0_4 < 1) = false := decide_eq_false c27
                            clear c27
                            (first | rw [c27b0] | (simp only [i64_w, i32_w]; rw [c27b0]) | skip)
                            by_cases c29 : a0_4 > 65536
                            · rw [if_pos c29] at H
                              have c29b0 : decide (65536 < a0_4) = true := decide_eq_true c29
                              clear c29
                              have H' := Aside0.mk H
                              clear H
                              have hcz30_0 : wc.cell? ⟨gb131, 0, none⟩ = some (.int .i64 a0_0) := (blk_cell BK131.out 0).trans rfl
                              have hcz30_1 : wc.cell? ⟨gb131, 1, none⟩ = some (.int .i64 a0_1) := (blk_cell BK131.out 1).trans rfl
                              have hcz30_2 : wc.cell? ⟨gb131, 2, none⟩ = some (.float .f64 a0_2) := (blk_cell BK131.out 2).trans rfl
                              have hcz30_3 : wc.cell? ⟨gb131, 3, none⟩ = some (.int .i64 a0_3) := (blk_cell BK131.out 3).trans rfl
                              have hcz30_4 : wc.cell? ⟨gb131, 4, none⟩ = some (.int .i64 a0_4) := (blk_cell BK131.out 4).trans rfl
                              have hcz30_5 : wc.cell? ⟨gb131, 5, none⟩ = some (.int .i64 a0_5) := (blk_cell BK131.out 5).trans rfl
                              have hcz30_6 : wc.cell? ⟨gb131, 6, none⟩ = some (.int .i64 a0_6) := (blk_cell BK131.out 6).trans rfl
                              have hcz30_7 : wc.cell? ⟨gb131, 7, none⟩ = some (.int .i64 a0_7) := (blk_cell BK131.out 7).trans rfl
                              have hcz30_8 : wc.cell? ⟨gb131, 8, none⟩ = some (.int .i64 a0_8) := (blk_cell BK131.out 8).trans rfl
                              have hcz30_9 : wc.cell? ⟨gb131, 9, none⟩ = some (.bool a0_9) := (blk_cell BK131.out 9).trans rfl
                              have hcz30_10 : wc.cell? ⟨gb131, 10, none⟩ = some (.bool a0_10) := (blk_cell BK131.out 10).trans rfl
                              have hfz30_0 := blk_frozen BK131.out 0
                              have hfz30_1 := blk_frozen BK131.out 1
                              have hfz30_2 := blk_frozen BK131.out 2
                              have hfz30_3 := blk_frozen BK131.out 3
                              have hfz30_4 := blk_frozen BK131.out 4
                              have hfz30_5 := blk_frozen BK131.out 5
                              have hfz30_6 := blk_frozen BK131.out 6
                              have hfz30_7 := blk_frozen BK131.out 7
                              have hfz30_8 := blk_frozen BK131.out 8
                              have hfz30_9 := blk_frozen BK131.out 9
                              have hfz30_10 := blk_frozen BK131.out 10
                              go_wp2
                              go_meet
                              case rel => exact ⟨_, (true), (by first | rfl | (simp; done) | (simp [*]; done)), H', ⟨by have := HJ1.out; have := HJ16.out; have := HJ20.out; first | omega | exact Nat.le_refl _⟩, ⟨by (with_reducible repeat (first | refine blk_drewN ?_ _ | refine blk_drew ?_ | refine blk_alloc ?_ _)); exact BK131.out⟩, ⟨by repeat (first | (with_reducible first | exact HB.out | apply below_alloc | apply pw_below_drewN | apply below_drew1 | refine below_set ?_ GE131.out) | exact HB.out)⟩⟩
                            · rw [if_neg c29] at H
                              have c29b0 : decide (65536 < a0_4) = false := decide_eq_false c29
                              clear c29
                              by_cases c31 : a0_5 < 1
                              · rw [if_pos c31] at H
                                have c31b0 : decide (a0_5 < 1) = true := decide_eq_true c31
                                clear c31
                                have H' := Aside0.mk H
                                clear H
                                have hcz32_0 : wc.cell? ⟨gb131, 0, none⟩ = some (.int .i64 a0_0) := (blk_cell BK131.out 0).trans rfl
                                have hcz32_1 : wc.cell? ⟨gb131, 1, none⟩ = some (.int .i64 a0_1) := (blk_cell BK131.out 1).trans rfl
                                have hcz32_2 : wc.cell? ⟨gb131, 2, none⟩ = some (.float .f64 a0_2) := (blk_cell BK131.out 2).trans rfl
                                have hcz32_3 : wc.cell? ⟨gb131, 3, none⟩ = some (.int .i64 a0_3) := (blk_cell BK131.out 3).trans rfl
                                have hcz32_4 : wc.cell? ⟨gb131, 4, none⟩ = some (.int .i64 a0_4) := (blk_cell BK131.out 4).trans rfl
                                have hcz32_5 : wc.cell? ⟨gb131, 5, none⟩ = some (.int .i64 a0_5) := (blk_cell BK131.out 5).trans rfl
                                have hcz32_6 : wc.cell? ⟨gb131, 6, none⟩ = some (.int .i64 a0_6) := (blk_cell BK131.out 6).trans rfl
                                have hcz32_7 : wc.cell? ⟨gb131, 7, none⟩ = some (.int .i64 a0_7) := (blk_cell BK131.out 7).trans rfl
                                have hcz32_8 : wc.cell? ⟨gb131, 8, none⟩ = some (.int .i64 a0_8) := (blk_cell BK131.out 8).trans rfl
                                have hcz32_9 : wc.cell? ⟨gb131, 9, none⟩ = some (.bool a0_9) := (blk_cell BK131.out 9).trans rfl
                                have hcz32_10 : wc.cell? ⟨gb131, 10, none⟩ = some (.bool a0_10) := (blk_cell BK131.out 10).trans rfl
                                have hfz32_0 := blk_frozen BK131.out 0
                                have hfz32_1 := blk_frozen BK131.out 1
                                have hfz32_2 := blk_frozen BK131.out 2
                                have hfz32_3 := blk_frozen BK131.out 3
                                have hfz32_4 := blk_frozen BK131.out 4
                                have hfz32_5 := blk_frozen BK131.out 5
                                have hfz32_6 := blk_frozen BK131.out 6
                                have hfz32_7 := blk_frozen BK131.out 7
                                have hfz32_8 := blk_frozen BK131.out 8
                                have hfz32_9 := blk_frozen BK131.out 9
                                have hfz32_10 := blk_frozen BK131.out 10
                                go_wp2
                                go_meet
                                case rel => exact ⟨_, (true), (by first | rfl | (simp; done) | (simp [*]; done)), H', ⟨by have := HJ1.out; have := HJ16.out; have := HJ20.out; first | omega | exact Nat.le_refl _⟩, ⟨by (with_reducible repeat (first | refine blk_drewN ?_ _ | refine blk_drew ?_ | refine blk_alloc ?_ _)); exact BK131.out⟩, ⟨by repeat (first | (with_reducible first | exact HB.out | apply below_alloc | apply pw_below_drewN | apply below_drew1 | refine below_set ?_ GE131.out) | exact HB.out)⟩⟩
                              · rw [if_neg c31] at H
                                have c31b0 : decide (a0_5 < 1) = false := decide_eq_false c31
                                clear c31
                                have H' := Aside0.mk H
                                clear H
                                have hcz33_0 : wc.cell? ⟨gb131, 0, none⟩ = some (.int .i64 a0_0) := (blk_cell BK131.out 0).trans rfl
                                have hcz33_1 : wc.cell? ⟨gb131, 1, none⟩ = some (.int .i64 a0_1) := (blk_cell BK131.out 1).trans rfl
                                have hcz33_2 : wc.cell? ⟨gb131, 2, none⟩ = some (.float .f64 a0_2) := (blk_cell BK131.out 2).trans rfl
                                have hcz33_3 : wc.cell? ⟨gb131, 3, none⟩ = some (.int .i64 a0_3) := (blk_cell BK131.out 3).trans rfl
                                have hcz33_4 : wc.cell? ⟨gb131, 4, none⟩ = some (.int .i64 a0_4) := (blk_cell BK131.out 4).trans rfl
                                have hcz33_5 : wc.cell? ⟨gb131, 5, none⟩ = some (.int .i64 a0_5) := (blk_cell BK131.out 5).trans rfl
                                have hcz33_6 : wc.cell? ⟨gb131, 6, none⟩ = some (.int .i64 a0_6) := (blk_cell BK131.out 6).trans rfl
                                have hcz33_7 : wc.cell? ⟨gb131, 7, none⟩ = some (.int .i64 a0_7) := (blk_cell BK131.out 7).trans rfl
                                have hcz33_8 : wc.cell? ⟨gb131, 8, none⟩ = some (.int .i64 a0_8) := (blk_cell BK131.out 8).trans rfl
                                have hcz33_9 : wc.cell? ⟨gb131, 9, none⟩ = some (.bool a0_9) := (blk_cell BK131.out 9).trans rfl
                                have hcz33_10 : wc.cell? ⟨gb131, 10, none⟩ = some (.bool a0_10) := (blk_cell BK131.out 10).trans rfl
                                have hfz33_0 := blk_frozen BK131.out 0
                                have hfz33_1 := blk_frozen BK131.out 1
                                have hfz33_2 := blk_frozen BK131.out 2
                                have hfz33_3 := blk_frozen BK131.out 3
                                have hfz33_4 := blk_frozen BK131.out 4
                                have hfz33_5 := blk_frozen BK131.out 5
                                have hfz33_6 := blk_frozen BK131.out 6
                                have hfz33_7 := blk_frozen BK131.out 7
                                have hfz33_8 := blk_frozen BK131.out 8
                                have hfz33_9 := blk_frozen BK131.out 9
                                have hfz33_10 := blk_frozen BK131.out 10
                                go_wp2
                                go_meet
                                case rel => exact ⟨_, (decide (a0_5 > 1024)), (by first | rfl | (simp; done) | (simp [*]; done)), H', ⟨by have := HJ1.out; have := HJ16.out; have := HJ20.out; first | omega | exact Nat.le_refl _⟩, ⟨by (with_reducible repeat (first | refine blk_drewN ?_ _ | refine blk_drew ?_ | refine blk_alloc ?_ _)); exact BK131.out⟩, ⟨by repeat (first | (with_reducible first | exact HB.out | apply below_alloc | apply pw_below_drewN | apply below_drew1 | refine below_set ?_ GE131.out) | exact HB.out)⟩⟩
                        case rest =>
                          clear HC26
                          try clear c1
                          try clear c2
                          try clear p2
                          try clear c3
                          try clear c4
                          try clear c4b0
                          try clear c6
                          try clear c6b0
                          try clear c7
                          try clear c8
                          try clear c8b0
                          try clear c11
                          try clear c12
                          try clear c12b0
                          try clear c12b1
                          try clear c14
                          try clear c15
                          try clear c15b0
                          try clear c15b1
                          try clear c19
                          try clear c19b0
                          try clear c19b1
                          try clear c20
                          try clear c22
                          try clear c22b0
                          try clear c25
                          try clear c27
                          try clear c27b0
                          try clear c29
                          try clear c29b0
                          try clear c31
                          try clear c31b0
                          try clear hcz10_0
                          try clear hcz10_1
                          try clear hcz10_10
                          try clear hcz10_2
                          try clear hcz10_3
                          try clear hcz10_4
                          try clear hcz10_5
                          try clear hcz10_6
                          try clear hcz10_7
                          try clear hcz10_8
                          try clear hcz10_9
                          try clear hcz13_0
                          try clear hcz13_1
                          try clear hcz13_10
                          try clear hcz13_2
                          try clear hcz13_3
                          try clear hcz13_4
                          try clear hcz13_5
                          try clear hcz13_6
                          try clear hcz13_7
                          try clear hcz13_8
                          try clear hcz13_9
                          try clear hcz16_0
                          try clear hcz16_1
                          try clear hcz16_10
                          try clear hcz16_2
                          try clear hcz16_3
                          try clear hcz16_4
                          try clear hcz16_5
                          try clear hcz16_6
                          try clear hcz16_7
                          try clear hcz16_8
                          try clear hcz16_9
                          try clear hcz18_0
                          try clear hcz18_1
                          try clear hcz18_10
                          try clear hcz18_2
                          try clear hcz18_3
                          try clear hcz18_4
                          try clear hcz18_5
                          try clear hcz18_6
                          try clear hcz18_7
                          try clear hcz18_8
                          try clear hcz18_9
                          try clear hcz23_0
                          try clear hcz23_1
                          try clear hcz23_10
                          try clear hcz23_2
                          try clear hcz23_3
                          try clear hcz23_4
                          try clear hcz23_5
                          try clear hcz23_6
                          try clear hcz23_7
                          try clear hcz23_8
                          try clear hcz23_9
                          try clear hcz24_0
                          try clear hcz24_1
                          try clear hcz24_10
                          try clear hcz24_2
                          try clear hcz24_3
                          try clear hcz24_4
                          try clear hcz24_5
                          try clear hcz24_6
                          try clear hcz24_7
                          try clear hcz24_8
                          try clear hcz24_9
                          try clear hcz28_0
                          try clear hcz28_1
                          try clear hcz28_10
                          try clear hcz28_2
                          try clear hcz28_3
                          try clear hcz28_4
                          try clear hcz28_5
                          try clear hcz28_6
                          try clear hcz28_7
                          try clear hcz28_8
                          try clear hcz28_9
                          try clear hcz30_0
                          try clear hcz30_1
                          try clear hcz30_10
                          try clear hcz30_2
                          try clear hcz30_3
                          try clear hcz30_4
                          try clear hcz30_5
                          try clear hcz30_6
                          try clear hcz30_7
                          try clear hcz30_8
                          try clear hcz30_9
                          try clear hcz32_0
                          try clear hcz32_1
                          try clear hcz32_10
                          try clear hcz32_2
                          try clear hcz32_3
                          try clear hcz32_4
                          try clear hcz32_5
                          try clear hcz32_6
                          try clear hcz32_7
                          try clear hcz32_8
                          try clear hcz32_9
                          try clear hcz33_0
                          try clear hcz33_1
                          try clear hcz33_10
                          try clear hcz33_2
                          try clear hcz33_3
                          try clear hcz33_4
                          try clear hcz33_5
                          try clear hcz33_6
                          try clear hcz33_7
                          try clear hcz33_8
                          try clear hcz33_9
                          try clear hcz5_0
                          try clear hcz5_1
                          try clear hcz5_10
                          try clear hcz5_2
                          try clear hcz5_3
                          try clear hcz5_4
                          try clear hcz5_5
                          try clear hcz5_6
                          try clear hcz5_7
                          try clear hcz5_8
                          try clear hcz5_9
                          try clear hcz7_0
                          try clear hcz7_1
                          try clear hcz7_10
                          try clear hcz7_2
                          try clear hcz7_3
                          try clear hcz7_4
                          try clear hcz7_5
                          try clear hcz7_6
                          try clear hcz7_7
                          try clear hcz7_8
                          try clear hcz7_9
                          try clear hcz9_0
                          try clear hcz9_1
                          try clear hcz9_10
                          try clear hcz9_2
                          try clear hcz9_3
                          try clear hcz9_4
                          try clear hcz9_5
                          try clear hcz9_6
                          try clear hcz9_7
                          try clear hcz9_8
                          try clear hcz9_9
                          try clear hfz10_0
                          try clear hfz10_1
                          try clear hfz10_10
                          try clear hfz10_2
                          try clear hfz10_3
                          try clear hfz10_4
                          try clear hfz10_5
                          try clear hfz10_6
                          try clear hfz10_7
                          try clear hfz10_8
                          try clear hfz10_9
                          try clear hfz13_0
                          try clear hfz13_1
                          try clear hfz13_10
                          try clear hfz13_2
                          try clear hfz13_3
                          try clear hfz13_4
                          try clear hfz13_5
                          try clear hfz13_6
                          try clear hfz13_7
                          try clear hfz13_8
                          try clear hfz13_9
                          try clear hfz16_0
                          try clear hfz16_1
                          try clear hfz16_10
                          try clear hfz16_2
                          try clear hfz16_3
                          try clear hfz16_4
                          try clear hfz16_5
                          try clear hfz16_6
                          try clear hfz16_7
                          try clear hfz16_8
                          try clear hfz16_9
                          try clear hfz18_0
                          try clear hfz18_1
                          try clear hfz18_10
                          try clear hfz18_2
                          try clear hfz18_3
                          try clear hfz18_4
                          try clear hfz18_5
                          try clear hfz18_6
                          try clear hfz18_7
                          try clear hfz18_8
                          try clear hfz18_9
                          try clear hfz23_0
                          try clear hfz23_1
                          try clear hfz23_10
                          try clear hfz23_2
                          try clear hfz23_3
                          try clear hfz23_4
                          try clear hfz23_5
                          try clear hfz23_6
                          try clear hfz23_7
                          try clear hfz23_8
                          try clear hfz23_9
                          try clear hfz24_0
                          try clear hfz24_1
                          try clear hfz24_10
                          try clear hfz24_2
                          try clear hfz24_3
                          try clear hfz24_4
                          try clear hfz24_5
                          try clear hfz24_6
                          try clear hfz24_7
                          try clear hfz24_8
                          try clear hfz24_9
                          try clear hfz28_0
                          try clear hfz28_1
                          try clear hfz28_10
                          try clear hfz28_2
                          try clear hfz28_3
                          try clear hfz28_4
                          try clear hfz28_5
                          try clear hfz28_6
                          try clear hfz28_7
                          try clear hfz28_8
                          try clear hfz28_9
                          try clear hfz30_0
                          try clear hfz30_1
                          try clear hfz30_10
                          try clear hfz30_2
                          try clear hfz30_3
                          try clear hfz30_4
                          try clear hfz30_5
                          try clear hfz30_6
                          try clear hfz30_7
                          try clear hfz30_8
                          try clear hfz30_9
                          try clear hfz32_0
                          try clear hfz32_1
                          try clear hfz32_10
                          try clear hfz32_2
                          try clear hfz32_3
                          try clear hfz32_4
                          try clear hfz32_5
                          try clear hfz32_6
                          try clear hfz32_7
                          try clear hfz32_8
                          try clear hfz32_9
                          try clear hfz33_0
                          try clear hfz33_1
                          try clear hfz33_10
                          try clear hfz33_2
                          try clear hfz33_3
                          try clear hfz33_4
                          try clear hfz33_5
                          try clear hfz33_6
                          try clear hfz33_7
                          try clear hfz33_8
                          try clear hfz33_9
                          try clear hfz5_0
                          try clear hfz5_1
                          try clear hfz5_10
                          try clear hfz5_2
                          try clear hfz5_3
                          try clear hfz5_4
                          try clear hfz5_5
                          try clear hfz5_6
                          try clear hfz5_7
                          try clear hfz5_8
                          try clear hfz5_9
                          try clear hfz7_0
                          try clear hfz7_1
                          try clear hfz7_10
                          try clear hfz7_2
                          try clear hfz7_3
                          try clear hfz7_4
                          try clear hfz7_5
                          try clear hfz7_6
                          try clear hfz7_7
                          try clear hfz7_8
                          try clear hfz7_9
                          try clear hfz9_0
                          try clear hfz9_1
                          try clear hfz9_10
                          try clear hfz9_2
                          try clear hfz9_3
                          try clear hfz9_4
                          try clear hfz9_5
                          try clear hfz9_6
                          try clear hfz9_7
                          try clear hfz9_8
                          try clear hfz9_9
                          try clear p2
                          obtain ⟨kq, x67_25, rfl, HA, HJ25, BK131, HB⟩ := hcut
                          cases kq with
                          | zero => exact absurd HA.out (by simp [flashlockref17_Right.j3])
                          | succ kj25 =>
                            have H := HA.out
                            clear HA
                            simp only [flashlockref17_Right.j3] at H
                            by_cases c34 : x67_25 = true
                            · subst c34
                              have H1 : (some 16) = some r := by rw [if_pos rfl] at H; exact H
                              clear H
                              have H := H1
                              clear H1
                              obtain rfl := Option.some.inj H
                              go_wp2
                              go_ret
                              exact ⟨by first | rfl | (simp [errW_none, errW_some] <;> rfl) | (simp [*, errW_none, errW_some] <;> rfl), by repeat (first | (with_reducible first | exact HB.out | apply below_alloc | apply pw_below_drewN | apply below_drew1 | refine below_set ?_ GE131.out) | exact HB.out)⟩
                            · replace c34 := Bool.eq_false_iff.mpr c34
                              subst c34
                              have H1 : (if a0_6 < 0 then (some 2) else (if a0_6 > 16 then (some 2) else (if a0_7 < (-1099511627776) then (some 2) else (if a0_7 > 0 then (some 2) else (if a0_8 < 0 then (some 2) else (if a0_8 > 1099511627776 then (some 2) else (some 0))))))) = some r := by rw [if_neg (show ¬ (false = true) by decide)] at H; exact H
                              clear H
                              have H := H1
                              clear H1
                              by_cases c35 : a0_6 < 0
                              · rw [if_pos c35] at H
                                have c35b0 : decide (a0_6 < 0) = true := decide_eq_true c35
                                clear c35
                                obtain rfl := Option.some.inj H
                                have hcz36_0 : wc.cell? ⟨gb131, 0, none⟩ = some (.int .i64 a0_0) := (blk_cell BK131.out 0).trans rfl
                                have hcz36_1 : wc.cell? ⟨gb131, 1, none⟩ = some (.int .i64 a0_1) := (blk_cell BK131.out 1).trans rfl
                                have hcz36_2 : wc.cell? ⟨gb131, 2, none⟩ = some (.float .f64 a0_2) := (blk_cell BK131.out 2).trans rfl
                                have hcz36_3 : wc.cell? ⟨gb131, 3, none⟩ = some (.int .i64 a0_3) := (blk_cell BK131.out 3).trans rfl
                                have hcz36_4 : wc.cell? ⟨gb131, 4, none⟩ = some (.int .i64 a0_4) := (blk_cell BK131.out 4).trans rfl
                                have hcz36_5 : wc.cell? ⟨gb131, 5, none⟩ = some (.int .i64 a0_5) := (blk_cell BK131.out 5).trans rfl
                                have hcz36_6 : wc.cell? ⟨gb131, 6, none⟩ = some (.int .i64 a0_6) := (blk_cell BK131.out 6).trans rfl
                                have hcz36_7 : wc.cell? ⟨gb131, 7, none⟩ = some (.int .i64 a0_7) := (blk_cell BK131.out 7).trans rfl
                                have hcz36_8 : wc.cell? ⟨gb131, 8, none⟩ = some (.int .i64 a0_8) := (blk_cell BK131.out 8).trans rfl
                                have hcz36_9 : wc.cell? ⟨gb131, 9, none⟩ = some (.bool a0_9) := (blk_cell BK131.out 9).trans rfl
                                have hcz36_10 : wc.cell? ⟨gb131, 10, none⟩ = some (.bool a0_10) := (blk_cell BK131.out 10).trans rfl
                                have hfz36_0 := blk_frozen BK131.out 0
                                have hfz36_1 := blk_frozen BK131.out 1
                                have hfz36_2 := blk_frozen BK131.out 2
                                have hfz36_3 := blk_frozen BK131.out 3
                                have hfz36_4 := blk_frozen BK131.out 4
                                have hfz36_5 := blk_frozen BK131.out 5
                                have hfz36_6 := blk_frozen BK131.out 6
                                have hfz36_7 := blk_frozen BK131.out 7
                                have hfz36_8 := blk_frozen BK131.out 8
                                have hfz36_9 := blk_frozen BK131.out 9
                                have hfz36_10 := blk_frozen BK131.out 10
                                go_wp2
                                go_ret
                                exact ⟨by first | rfl | (simp [errW_none, errW_some] <;> rfl) | (simp [*, errW_none, errW_some] <;> rfl), by repeat (first | (with_reducible first | exact HB.out | apply below_alloc | apply pw_below_drewN | apply below_drew1 | refine below_set ?_ GE131.out) | exact HB.out)⟩
                              · rw [if_neg c35] at H
                                have c35b0 : decide (a0_6 < 0) = false := decide_eq_false c35
                                clear c35
                                by_cases c37 : a0_6 > 16
                                · rw [if_pos c37] at H
                                  have c37b0 : decide (16 < a0_6) = true := decide_eq_true c37
                                  clear c37
                                  obtain rfl := Option.some.inj H
                                  have hcz38_0 : wc.cell? ⟨gb131, 0, none⟩ = some (.int .i64 a0_0) := (blk_cell BK131.out 0).trans rfl
                                  have hcz38_1 : wc.cell? ⟨gb131, 1, none⟩ = some (.int .i64 a0_1) := (blk_cell BK131.out 1).trans rfl
                                  have hcz38_2 : wc.cell? ⟨gb131, 2, none⟩ = some (.float .f64 a0_2) := (blk_cell BK131.out 2).trans rfl
                                  have hcz38_3 : wc.cell? ⟨gb131, 3, none⟩ = some (.int .i64 a0_3) := (blk_cell BK131.out 3).trans rfl
                                  have hcz38_4 : wc.cell? ⟨gb131, 4, none⟩ = some (.int .i64 a0_4) := (blk_cell BK131.out 4).trans rfl
                                  have hcz38_5 : wc.cell? ⟨gb131, 5, none⟩ = some (.int .i64 a0_5) := (blk_cell BK131.out 5).trans rfl
                                  have hcz38_6 : wc.cell? ⟨gb131, 6, none⟩ = some (.int .i64 a0_6) := (blk_cell BK131.out 6).trans rfl
                                  have hcz38_7 : wc.cell? ⟨gb131, 7, none⟩ = some (.int .i64 a0_7) := (blk_cell BK131.out 7).trans rfl
                                  have hcz38_8 : wc.cell? ⟨gb131, 8, none⟩ = some (.int .i64 a0_8) := (blk_cell BK131.out 8).trans rfl
                                  have hcz38_9 : wc.cell? ⟨gb131, 9, none⟩ = some (.bool a0_9) := (blk_cell BK131.out 9).trans rfl
                                  have hcz38_10 : wc.cell? ⟨gb131, 10, none⟩ = some (.bool a0_10) := (blk_cell BK131.out 10).trans rfl
                                  have hfz38_0 := blk_frozen BK131.out 0
                                  have hfz38_1 := blk_frozen BK131.out 1
                                  have hfz38_2 := blk_frozen BK131.out 2
                                  have hfz38_3 := blk_frozen BK131.out 3
                                  have hfz38_4 := blk_frozen BK131.out 4
                                  have hfz38_5 := blk_frozen BK131.out 5
                                  have hfz38_6 := blk_frozen BK131.out 6
                                  have hfz38_7 := blk_frozen BK131.out 7
                                  have hfz38_8 := blk_frozen BK131.out 8
                                  have hfz38_9 := blk_frozen BK131.out 9
                                  have hfz38_10 := blk_frozen BK131.out 10
                                  go_wp2
                                  go_ret
                                  exact ⟨by first | rfl | (simp [errW_none, errW_some] <;> rfl) | (simp [*, errW_none, errW_some] <;> rfl), by repeat (first | (with_reducible first | exact HB.out | apply below_alloc | apply pw_below_drewN | apply below_drew1 | refine below_set ?_ GE131.out) | exact HB.out)⟩
                                · rw [if_neg c37] at H
                                  have c37b0 : decide (16 < a0_6) = false := decide_eq_false c37
                                  clear c37
                                  by_cases c39 : a0_7 < (-1099511627776)
                                  · rw [if_pos c39] at H
                                    have c39b0 : decide (a0_7 < (-1099511627776)) = true := decide_eq_true c39
                                    clear c39
                                    obtain rfl := Option.some.inj H
                                    have hcz40_0 : wc.cell? ⟨gb131, 0, none⟩ = some (.int .i64 a0_0) := (blk_cell BK131.out 0).trans rfl
                                    have hcz40_1 : wc.cell? ⟨gb131, 1, none⟩ = some (.int .i64 a0_1) := (blk_cell BK131.out 1).trans rfl
                                    have hcz40_2 : wc.cell? ⟨gb131, 2, none⟩ = some (.float .f64 a0_2) := (blk_cell BK131.out 2).trans rfl
                                    have hcz40_3 : wc.cell? ⟨gb131, 3, none⟩ = some (.int .i64 a0_3) := (blk_cell BK131.out 3).trans rfl
                                    have hcz40_4 : wc.cell? ⟨gb131, 4, none⟩ = some (.int .i64 a0_4) := (blk_cell BK131.out 4).trans rfl
                                    have hcz40_5 : wc.cell? ⟨gb131, 5, none⟩ = some (.int .i64 a0_5) := (blk_cell BK131.out 5).trans rfl
                                    have hcz40_6 : wc.cell? ⟨gb131, 6, none⟩ = some (.int .i64 a0_6) := (blk_cell BK131.out 6).trans rfl
                                    have hcz40_7 : wc.cell? ⟨gb131, 7, none⟩ = some (.int .i64 a0_7) := (blk_cell BK131.out 7).trans rfl
                                    have hcz40_8 : wc.cell? ⟨gb131, 8, none⟩ = some (.int .i64 a0_8) := (blk_cell BK131.out 8).trans rfl
                                    have hcz40_9 : wc.cell? ⟨gb131, 9, none⟩ = some (.bool a0_9) := (blk_cell BK131.out 9).trans rfl
                                    have hcz40_10 : wc.cell? ⟨gb131, 10, none⟩ = some (.bool a0_10) := (blk_cell BK131.out 10).trans rfl
                                    have hfz40_0 := blk_frozen BK131.out 0
                                    have hfz40_1 := blk_frozen BK131.out 1
                                    have hfz40_2 := blk_frozen BK131.out 2
                                    have hfz40_3 := blk_frozen BK131.out 3
                                    have hfz40_4 := blk_frozen BK131.out 4
                                    have hfz40_5 := blk_frozen BK131.out 5
                                    have hfz40_6 := blk_frozen BK131.out 6
                                    have hfz40_7 := blk_frozen BK131.out 7
                                    have hfz40_8 := blk_frozen BK131.out 8
                                    have hfz40_9 := blk_frozen BK131.out 9
                                    have hfz40_10 := blk_frozen BK131.out 10
                                    go_wp2
                                    go_ret
                                    exact ⟨by first | rfl | (simp [errW_none, errW_some] <;> rfl) | (simp [*, errW_none, errW_some] <;> rfl), by repeat (first | (with_reducible first | exact HB.out | apply below_alloc | apply pw_below_drewN | apply below_drew1 | refine below_set ?_ GE131.out) | exact HB.out)⟩
                                  · rw [if_neg c39] at H
                                    have c39b0 : decide (a0_7 < (-1099511627776)) = false := decide_eq_false c39
                                    clear c39
                                    by_cases c41 : a0_7 > 0
                                    · rw [if_pos c41] at H
                                      have c41b0 : decide (0 < a0_7) = true := decide_eq_true c41
                                      clear c41
                                      obtain rfl := Option.some.inj H
                                      have hcz42_0 : wc.cell? ⟨gb131, 0, none⟩ = some (.int .i64 a0_0) := (blk_cell BK131.out 0).trans rfl
                                      have hcz42_1 : wc.cell? ⟨gb131, 1, none⟩ = some (.int .i64 a0_1) := (blk_cell BK131.out 1).trans rfl
                                      have hcz42_2 : wc.cell? ⟨gb131, 2, none⟩ = some (.float .f64 a0_2) := (blk_cell BK131.out 2).trans rfl
                                      have hcz42_3 : wc.cell? ⟨gb131, 3, none⟩ = some (.int .i64 a0_3) := (blk_cell BK131.out 3).trans rfl
                                      have hcz42_4 : wc.cell? ⟨gb131, 4, none⟩ = some (.int .i64 a0_4) := (blk_cell BK131.out 4).trans rfl
                                      have hcz42_5 : wc.cell? ⟨gb131, 5, none⟩ = some (.int .i64 a0_5) := (blk_cell BK131.out 5).trans rfl
                                      have hcz42_6 : wc.cell? ⟨gb131, 6, none⟩ = some (.int .i64 a0_6) := (blk_cell BK131.out 6).trans rfl
                                      have hcz42_7 : wc.cell? ⟨gb131, 7, none⟩ = some (.int .i64 a0_7) := (blk_cell BK131.out 7).trans rfl
                                      have hcz42_8 : wc.cell? ⟨gb131, 8, none⟩ = some (.int .i64 a0_8) := (blk_cell BK131.out 8).trans rfl
                                      have hcz42_9 : wc.cell? ⟨gb131, 9, none⟩ = some (.bool a0_9) := (blk_cell BK131.out 9).trans rfl
                                      have hcz42_10 : wc.cell? ⟨gb131, 10, none⟩ = some (.bool a0_10) := (blk_cell BK131.out 10).trans rfl
                                      have hfz42_0 := blk_frozen BK131.out 0
                                      have hfz42_1 := blk_frozen BK131.out 1
                                      have hfz42_2 := blk_frozen BK131.out 2
                                      have hfz42_3 := blk_frozen BK131.out 3
                                      have hfz42_4 := blk_frozen BK131.out 4
                                      have hfz42_5 := blk_frozen BK131.out 5
                                      have hfz42_6 := blk_frozen BK131.out 6
                                      have hfz42_7 := blk_frozen BK131.out 7
                                      have hfz42_8 := blk_frozen BK131.out 8
                                      have hfz42_9 := blk_frozen BK131.out 9
                                      have hfz42_10 := blk_frozen BK131.out 10
                                      go_wp2
                                      go_ret
                                      exact ⟨by first | rfl | (simp [errW_none, errW_some] <;> rfl) | (simp [*, errW_none, errW_some] <;> rfl), by repeat (first | (with_reducible first | exact HB.out | apply below_alloc | apply pw_below_drewN | apply below_drew1 | refine below_set ?_ GE131.out) | exact HB.out)⟩
                                    · rw [if_neg c41] at H
                                      have c41b0 : decide (0 < a0_7) = false := decide_eq_false c41
                                      clear c41
                                      by_cases c43 : a0_8 < 0
                                      · rw [if_pos c43] at H
                                        have c43b0 : decide (a0_8 < 0) = true := decide_eq_true c43
                                        clear c43
                                        obtain rfl := Option.some.inj H
                                        have hcz44_0 : wc.cell? ⟨gb131, 0, none⟩ = some (.int .i64 a0_0) := (blk_cell BK131.out 0).trans rfl
                                        have hcz44_1 : wc.cell? ⟨gb131, 1, none⟩ = some (.int .i64 a0_1) := (blk_cell BK131.out 1).trans rfl
                                        have hcz44_2 : wc.cell? ⟨gb131, 2, none⟩ = some (.float .f64 a0_2) := (blk_cell BK131.out 2).trans rfl
                                        have hcz44_3 : wc.cell? ⟨gb131, 3, none⟩ = some (.int .i64 a0_3) := (blk_cell BK131.out 3).trans rfl
                                        have hcz44_4 : wc.cell? ⟨gb131, 4, none⟩ = some (.int .i64 a0_4) := (blk_cell BK131.out 4).trans rfl
                                        have hcz44_5 : wc.cell? ⟨gb131, 5, none⟩ = some (.int .i64 a0_5) := (blk_cell BK131.out 5).trans rfl
                                        have hcz44_6 : wc.cell? ⟨gb131, 6, none⟩ = some (.int .i64 a0_6) := (blk_cell BK131.out 6).trans rfl
                                        have hcz44_7 : wc.cell? ⟨gb131, 7, none⟩ = some (.int .i64 a0_7) := (blk_cell BK131.out 7).trans rfl
                                        have hcz44_8 : wc.cell? ⟨gb131, 8, none⟩ = some (.int .i64 a0_8) := (blk_cell BK131.out 8).trans rfl
                                        have hcz44_9 : wc.cell? ⟨gb131, 9, none⟩ = some (.bool a0_9) := (blk_cell BK131.out 9).trans rfl
                                        have hcz44_10 : wc.cell? ⟨gb131, 10, none⟩ = some (.bool a0_10) := (blk_cell BK131.out 10).trans rfl
                                        have hfz44_0 := blk_frozen BK131.out 0
                                        have hfz44_1 := blk_frozen BK131.out 1
                                        have hfz44_2 := blk_frozen BK131.out 2
                                        have hfz44_3 := blk_frozen BK131.out 3
                                        have hfz44_4 := blk_frozen BK131.out 4
                                        have hfz44_5 := blk_frozen BK131.out 5
                                        have hfz44_6 := blk_frozen BK131.out 6
                                        have hfz44_7 := blk_frozen BK131.out 7
                                        have hfz44_8 := blk_frozen BK131.out 8
                                        have hfz44_9 := blk_frozen BK131.out 9
                                        have hfz44_10 := blk_frozen BK131.out 10
                                        go_wp2
                                        go_ret
                                        exact ⟨by first | rfl | (simp [errW_none, errW_some] <;> rfl) | (simp [*, errW_none, errW_some] <;> rfl), by repeat (first | (with_reducible first | exact HB.out | apply below_alloc | apply pw_below_drewN | apply below_drew1 | refine below_set ?_ GE131.out) | exact HB.out)⟩
                                      · rw [if_neg c43] at H
                                        have c43b0 : decide (a0_8 < 0) = false := decide_eq_false c43
                                        clear c43
                                        by_cases c45 : a0_8 > 1099511627776
                                        · rw [if_pos c45] at H
                                          have c45b0 : decide (1099511627776 < a0_8) = true := decide_eq_true c45
                                          clear c45
                                          obtain rfl := Option.some.inj H
                                          have hcz46_0 : wc.cell? ⟨gb131, 0, none⟩ = some (.int .i64 a0_0) := (blk_cell BK131.out 0).trans rfl
                                          have hcz46_1 : wc.cell? ⟨gb131, 1, none⟩ = some (.int .i64 a0_1) := (blk_cell BK131.out 1).trans rfl
                                          have hcz46_2 : wc.cell? ⟨gb131, 2, none⟩ = some (.float .f64 a0_2) := (blk_cell BK131.out 2).trans rfl
                                          have hcz46_3 : wc.cell? ⟨gb131, 3, none⟩ = some (.int .i64 a0_3) := (blk_cell BK131.out 3).trans rfl
                                          have hcz46_4 : wc.cell? ⟨gb131, 4, none⟩ = some (.int .i64 a0_4) := (blk_cell BK131.out 4).trans rfl
                                          have hcz46_5 : wc.cell? ⟨gb131, 5, none⟩ = some (.int .i64 a0_5) := (blk_cell BK131.out 5).trans rfl
                                          have hcz46_6 : wc.cell? ⟨gb131, 6, none⟩ = some (.int .i64 a0_6) := (blk_cell BK131.out 6).trans rfl
                                          have hcz46_7 : wc.cell? ⟨gb131, 7, none⟩ = some (.int .i64 a0_7) := (blk_cell BK131.out 7).trans rfl
                                          have hcz46_8 : wc.cell? ⟨gb131, 8, none⟩ = some (.int .i64 a0_8) := (blk_cell BK131.out 8).trans rfl
                                          have hcz46_9 : wc.cell? ⟨gb131, 9, none⟩ = some (.bool a0_9) := (blk_cell BK131.out 9).trans rfl
                                          have hcz46_10 : wc.cell? ⟨gb131, 10, none⟩ = some (.bool a0_10) := (blk_cell BK131.out 10).trans rfl
                                          have hfz46_0 := blk_frozen BK131.out 0
                                          have hfz46_1 := blk_frozen BK131.out 1
                                          have hfz46_2 := blk_frozen BK131.out 2
                                          have hfz46_3 := blk_frozen BK131.out 3
                                          have hfz46_4 := blk_frozen BK131.out 4
                                          have hfz46_5 := blk_frozen BK131.out 5
                                          have hfz46_6 := blk_frozen BK131.out 6
                                          have hfz46_7 := blk_frozen BK131.out 7
                                          have hfz46_8 := blk_frozen BK131.out 8
                                          have hfz46_9 := blk_frozen BK131.out 9
                                          have hfz46_10 := blk_frozen BK131.out 10
                                          go_wp2
                                          go_ret
                                          exact ⟨by first | rfl | (simp [errW_none, errW_some] <;> rfl) | (simp [*, errW_none, errW_some] <;> rfl), by repeat (first | (with_reducible first | exact HB.out | apply below_alloc | apply pw_below_drewN | apply below_drew1 | refine below_set ?_ GE131.out) | exact HB.out)⟩
                                        · rw [if_neg c45] at H
                                          have c45b0 : decide (1099511627776 < a0_8) = false := decide_eq_false c45
                                          clear c45
                                          obtain rfl := Option.some.inj H
                                          have hcz47_0 : wc.cell? ⟨gb131, 0, none⟩ = some (.int .i64 a0_0) := (blk_cell BK131.out 0).trans rfl
                                          have hcz47_1 : wc.cell? ⟨gb131, 1, none⟩ = some (.int .i64 a0_1) := (blk_cell BK131.out 1).trans rfl
                                          have hcz47_2 : wc.cell? ⟨gb131, 2, none⟩ = some (.float .f64 a0_2) := (blk_cell BK131.out 2).trans rfl
                                          have hcz47_3 : wc.cell? ⟨gb131, 3, none⟩ = some (.int .i64 a0_3) := (blk_cell BK131.out 3).trans rfl
                                          have hcz47_4 : wc.cell? ⟨gb131, 4, none⟩ = some (.int .i64 a0_4) := (blk_cell BK131.out 4).trans rfl
                                          have hcz47_5 : wc.cell? ⟨gb131, 5, none⟩ = some (.int .i64 a0_5) := (blk_cell BK131.out 5).trans rfl
                                          have hcz47_6 : wc.cell? ⟨gb131, 6, none⟩ = some (.int .i64 a0_6) := (blk_cell BK131.out 6).trans rfl
                                          have hcz47_7 : wc.cell? ⟨gb131, 7, none⟩ = some (.int .i64 a0_7) := (blk_cell BK131.out 7).trans rfl
                                          have hcz47_8 : wc.cell? ⟨gb131, 8, none⟩ = some (.int .i64 a0_8) := (blk_cell BK131.out 8).trans rfl
                                          have hcz47_9 : wc.cell? ⟨gb131, 9, none⟩ = some (.bool a0_9) := (blk_cell BK131.out 9).trans rfl
                                          have hcz47_10 : wc.cell? ⟨gb131, 10, none⟩ = some (.bool a0_10) := (blk_cell BK131.out 10).trans rfl
                                          have hfz47_0 := blk_frozen BK131.out 0
                                          have hfz47_1 := blk_frozen BK131.out 1
                                          have hfz47_2 := blk_frozen BK131.out 2
                                          have hfz47_3 := blk_frozen BK131.out 3
                                          have hfz47_4 := blk_frozen BK131.out 4
                                          have hfz47_5 := blk_frozen BK131.out 5
                                          have hfz47_6 := blk_frozen BK131.out 6
                                          have hfz47_7 := blk_frozen BK131.out 7
                                          have hfz47_8 := blk_frozen BK131.out 8
                                          have hfz47_9 := blk_frozen BK131.out 9
                                          have hfz47_10 := blk_frozen BK131.out 10
                                          go_wp2
                                          go_ret
                                          exact ⟨by first | rfl | (simp [errW_none, errW_some] <;> rfl) | (simp [*, errW_none, errW_some] <;> rfl), by repeat (first | (with_reducible first | exact HB.out | apply below_alloc | apply pw_below_drewN | apply below_drew1 | refine below_set ?_ GE131.out) | exact HB.out)⟩

end Go.Proofs.Ytclfambjkolckaa.PI
