-- written by wip/tools/pr.py over the kit's print.py, out of the translation; Lean checks it
import Derived.Test.YtlnnghbbjbimoaaPVx0
import Derived.Test.YtlnnghbbjbimoaaPVx1
namespace Go.Proofs.Ytlnnghbbjbimoaa.PV
open Go.RowKit Go.Proofs.YtlnnghbbjbimoaaW.PrintWords Go.Proofs.YtlnnghbbjbimoaaW.PrintLast Go.Proofs.YtlnnghbbjbimoaaW.PrintMore
attribute [local go_sem] max2_int min2_int max_two min_two max_three min_three max_four min_four   -- for this text's walks alone
set_option linter.unusedVariables false
set_option linter.unusedSimpArgs false

/-! ### ipv4_Make: function 89 -/
def ipv4_Make.j0 : Nat → ByteArray → Int → Int → Int → Int → Int → Int → Int → Int → Int → Bool → Option (ByteArray)
  | 0, _, _, _, _, _, _, _, _, _, _, _ => none
  | k + 1, x1, x5, x108000, x108001, x108002, x108003, x108004, x108005, x108006, x108007, x108008 => (octets_PutU16.f (([69, 0] : List Int)) (wrap64 (20 + (x1.size : Int)))).bind fun t111 => ((octets_PutU16.f t111 0).bind fun t114 => ((octets_PutU16.f t114 x5).bind fun t117 => ((some (([0, (x108004) % 256] : List Int) : List Int)).bind fun y120 => (if t117.length + y120.length < 140737488355328 then ((octets_PutU16.f (t117 ++ y120) 0).bind fun t126 => ((octets_PutU32.f t126 (wrap64 (Go.bits .and .u64 x108001 4294967295))).bind fun t129 => ((octets_PutU32.f t129 (wrap64 (Go.bits .and .u64 x108003 4294967295))).bind fun t132 => ((ipv4_Sum.f k (strOfNums t132)).bind fun t135 => (if 10 < (t132.length : Int) then (if 11 < (t132.length : Int) then ((some ((t132.set (10 : Int).toNat ((t135 / 256) % 256)).set (11 : Int).toNat ((t135) % 256) : List Int)).bind fun y137 => (if (strOfNums y137).size + x1.size ≤ 9223372036854775807 then (some ((strOfNums y137) ++ x1)) else (none))) else (none)) else (none)))))) else (none)))))
def ipv4_Make.f (k : Nat) (a0_0 : Int) (a0_1 : Int) (a0_2 : Int) (a0_3 : Int) (a0_4 : Int) (a0_5 : Int) (a0_6 : Int) (a0_7 : Int) (a0_8 : Bool) (a1 : ByteArray) : Option (ByteArray) := if (a1.size : Int) > 65515 then (some (⟨#[]⟩ : ByteArray)) else (if a0_8 = true then (ipv4_Make.j0 k a1 (Go.bits .or .i64 (Go.bits .and .i64 a0_7 8191) 8192) a0_0 a0_1 a0_2 a0_3 a0_4 a0_5 a0_6 a0_7 a0_8) else (ipv4_Make.j0 k a1 (Go.bits .and .i64 a0_7 8191) a0_0 a0_1 a0_2 a0_3 a0_4 a0_5 a0_6 a0_7 a0_8))
theorem ipv4_Make.mono_l : ∀ k, (∀ y0 y1 y2 y3 y4 y5 y6 y7 y8 y9 y10, LeO (ipv4_Make.j0 k y0 y1 y2 y3 y4 y5 y6 y7 y8 y9 y10) (ipv4_Make.j0 (k + 1) y0 y1 y2 y3 y4 y5 y6 y7 y8 y9 y10))
  | 0 => fun _ _ _ _ _ _ _ _ _ _ _ r h => by simp [ipv4_Make.j0] at h
  | k + 1 => by
    have ih0 := ipv4_Make.mono_l k
    · intro y0 y1 y2 y3 y4 y5 y6 y7 y8 y9 y10
      unfold ipv4_Make.j0
      repeat' first
      | (with_reducible exact ih0 _ _ _ _ _ _ _ _ _ _ _)
      | (with_reducible exact ipv4_Sum.mono _ _)
      | (with_reducible exact LeO.refl _)
      | (with_reducible exact LeO.none _)
      | (with_reducible refine LeO.ite ?_ ?_)
      | (with_reducible refine LeO.bind ?_ (fun _ => ?_))
      | exact ih0 _ _ _ _ _ _ _ _ _ _ _
      | exact ipv4_Sum.mono _ _
      | exact LeO.none _
      | refine LeO.ite ?_ ?_
      | refine LeO.bind ?_ (fun _ => ?_)
theorem ipv4_Make.mono : ∀ a0 a1 a2 a3 a4 a5 a6 a7 a8 a9 k, LeO (ipv4_Make.f k a0 a1 a2 a3 a4 a5 a6 a7 a8 a9) (ipv4_Make.f (k + 1) a0 a1 a2 a3 a4 a5 a6 a7 a8 a9) := by
  intro a0 a1 a2 a3 a4 a5 a6 a7 a8 a9 k
  have ih0 := ipv4_Make.mono_l k
  unfold ipv4_Make.f
  repeat' first
      | (with_reducible exact ih0 _ _ _ _ _ _ _ _ _ _ _)
      | (with_reducible exact ipv4_Sum.mono _ _)
      | (with_reducible exact LeO.refl _)
      | (with_reducible exact LeO.none _)
      | (with_reducible refine LeO.ite ?_ ?_)
      | (with_reducible refine LeO.bind ?_ (fun _ => ?_))
      | exact ih0 _ _ _ _ _ _ _ _ _ _ _
      | exact ipv4_Sum.mono _ _
      | exact LeO.none _
      | refine LeO.ite ?_ ?_
      | refine LeO.bind ?_ (fun _ => ?_)
def ipv4_Make.T9 : Bool × List (List Nat × List Nat) := (true, [([], []), ([], []), ([1], [1]), ([2], [2]), ([3], [3]), ([4], [4]), ([0, 5], [0, 5]), ([], []), ([7], [7]), ([8], [8]), ([9], [9]), ([10], [10]), ([6, 11, 6], [6, 11]), ([12, 12, 0, 1, 2, 3, 4, 5, 6, 7, 8, 9, 10, 11, 12], [0, 12])])
def ipv4_Make.B9 : List Nat := [0, 0, 2, 6, 14, 30, 63, 0, 128, 384, 896, 1920, 4095, 8191]
theorem ipv4_Make.tab9 : rtab .any (opsOf Try.f89 9) = ipv4_Make.T9 := by kernel_rfl
theorem ipv4_Make.bits9 : waitsOk ipv4_Make.T9.2 ipv4_Make.B9 = true := by kernel_rfl
set_option maxHeartbeats 8000000 in
set_option maxRecDepth 100000 in
theorem ipv4_Make.calls (k : Nat) (a0_0 : Int) (a0_1 : Int) (a0_2 : Int) (a0_3 : Int) (a0_4 : Int) (a0_5 : Int) (a0_6 : Int) (a0_7 : Int) (a0_8 : Bool) (a1 : ByteArray) (r : ByteArray) (w : World) (h : ipv4_Make.f k a0_0 a0_1 a0_2 a0_3 a0_4 a0_5 a0_6 a0_7 a0_8 a1 = some r) :
    Calls Try.prog 89 #[.agg #[.int .u64 a0_0, .int .u64 a0_1, .int .u64 a0_2, .int .u64 a0_3, .int .i64 a0_4, .int .i64 a0_5, .int .i64 a0_6, .int .i64 a0_7, .bool a0_8], .string a1] w fun e w' => e = .returned (.string r) ∧ Below w.heap.size w w' := by
  have hu112 := Try.underlying112
  have HB := Aside0.mk (Below.refl w.heap.size w)
  have H : (if (a1.size : Int) > 65515 then (some (⟨#[]⟩ : ByteArray)) else (if a0_8 = true then (ipv4_Make.j0 k a1 (Go.bits .or .i64 (Go.bits .and .i64 a0_7 8191) 8192) a0_0 a0_1 a0_2 a0_3 a0_4 a0_5 a0_6 a0_7 a0_8) else (ipv4_Make.j0 k a1 (Go.bits .and .i64 a0_7 8191) a0_0 a0_1 a0_2 a0_3 a0_4 a0_5 a0_6 a0_7 a0_8))) = some r := h
  clear h
  by_cases c3 : (a1.size : Int) > 65515
  · rw [if_pos c3] at H
    have c3b0 : decide (65515 < (a1.size : Int)) = true := decide_eq_true c3
    have c3b1 : decide (65515 < a1.size) = true := decide_eq_true (by omega)
    clear c3
    obtain rfl := Option.some.inj H
    go_enter Try.func89, Try.ntmps89
    go_wp2_with (first | ((with_reducible refine gate_dst (N := 2) rfl ?_); refine box_event ?hg (N := 2) ?hd (cs := #[.int .u64 a0_0, .int .u64 a0_1, .int .u64 a0_2, .int .u64 a0_3, .int .i64 a0_4, .int .i64 a0_5, .int .i64 a0_6, .int .i64 a0_7, .bool a0_8]) (t := 112) ?hr ?_; (case hd => rfl); (case hg => rfl); (case hr => first | (go_simp; done) | (go_simp; rfl)); intro gb107 hg w4 hbox hb; have n0_ := Aside0.mk (below_step (by repeat (first | (with_reducible first | exact HB.out | apply below_alloc | apply pw_below_drewN | apply below_drew1) | exact HB.out)) hb); have n1_ := Aside0.mk (hbox); have n2_ := Aside0.mk ((by rw [hg]; exact (below_size (by repeat (first | (with_reducible first | exact HB.out | apply below_alloc | apply pw_below_drewN | apply below_drew1) | exact HB.out))) : w.heap.size ≤ gb107)); have n3_ := Aside0.mk ((by rw [hg]; exact (below_size (by repeat (first | (with_reducible first | exact HB.out | apply below_alloc | apply pw_below_drewN | apply below_drew1) | exact HB.out))) : w.heap.size ≤ gb107)); clear HB; have HB := n0_; have BK107 := n1_; have GW107 := n2_; have GE107 := n3_; clear n0_ n1_ n2_ n3_; clear hb hbox hg))
    go_ret
    exact ⟨by first | rfl | (simp [errW_none, errW_some] <;> rfl) | (simp [*, errW_none, errW_some] <;> rfl), by repeat (first | (with_reducible first | exact HB.out | apply below_alloc | apply pw_below_drewN | apply below_drew1 | refine below_set ?_ GE107.out) | exact HB.out)⟩
  · rw [if_neg c3] at H
    have c3b0 : decide (65515 < (a1.size : Int)) = false := decide_eq_false c3
    have c3b1 : decide (65515 < a1.size) = false := decide_eq_false (by omega)
    clear c3
    have HC5 := Aside0.mk H
    clear H
    go_enter Try.func89, Try.ntmps89
    go_upto_if 15 with (first | ((with_reducible refine gate_dst (N := 2) rfl ?_); refine box_event ?hg (N := 2) ?hd (cs := #[.int .u64 a0_0, .int .u64 a0_1, .int .u64 a0_2, .int .u64 a0_3, .int .i64 a0_4, .int .i64 a0_5, .int .i64 a0_6, .int .i64 a0_7, .bool a0_8]) (t := 112) ?hr ?_; (case hd => rfl); (case hg => rfl); (case hr => first | (go_simp; done) | (go_simp; rfl)); intro gb107 hg w6 hbox hb; have n0_ := Aside0.mk (below_step (by repeat (first | (with_reducible first | exact HB.out | apply below_alloc | apply pw_below_drewN | apply below_drew1) | exact HB.out)) hb); have n1_ := Aside0.mk (hbox); have n2_ := Aside0.mk ((by rw [hg]; exact (below_size (by repeat (first | (with_reducible first | exact HB.out | apply below_alloc | apply pw_below_drewN | apply below_drew1) | exact HB.out))) : w.heap.size ≤ gb107)); have n3_ := Aside0.mk ((by rw [hg]; exact (below_size (by repeat (first | (with_reducible first | exact HB.out | apply below_alloc | apply pw_below_drewN | apply below_drew1) | exact HB.out))) : w.heap.size ≤ gb107)); clear HB; have HB := n0_; have BK107 := n1_; have GW107 := n2_; have GE107 := n3_; clear n0_ n1_ n2_ n3_; clear hb hbox hg; have hcz7_0 : w6.cell? ⟨gb107, 0, none⟩ = some (.int .u64 a0_0) := (blk_cell BK107.out 0).trans rfl; have hcz7_1 : w6.cell? ⟨gb107, 1, none⟩ = some (.int .u64 a0_1) := (blk_cell BK107.out 1).trans rfl; have hcz7_2 : w6.cell? ⟨gb107, 2, none⟩ = some (.int .u64 a0_2) := (blk_cell BK107.out 2).trans rfl; have hcz7_3 : w6.cell? ⟨gb107, 3, none⟩ = some (.int .u64 a0_3) := (blk_cell BK107.out 3).trans rfl; have hcz7_4 : w6.cell? ⟨gb107, 4, none⟩ = some (.int .i64 a0_4) := (blk_cell BK107.out 4).trans rfl; have hcz7_5 : w6.cell? ⟨gb107, 5, none⟩ = some (.int .i64 a0_5) := (blk_cell BK107.out 5).trans rfl; have hcz7_6 : w6.cell? ⟨gb107, 6, none⟩ = some (.int .i64 a0_6) := (blk_cell BK107.out 6).trans rfl; have hcz7_7 : w6.cell? ⟨gb107, 7, none⟩ = some (.int .i64 a0_7) := (blk_cell BK107.out 7).trans rfl; have hcz7_8 : w6.cell? ⟨gb107, 8, none⟩ = some (.bool a0_8) := (blk_cell BK107.out 8).trans rfl; have hfz7_0 := blk_frozen BK107.out 0; have hfz7_1 := blk_frozen BK107.out 1; have hfz7_2 := blk_frozen BK107.out 2; have hfz7_3 := blk_frozen BK107.out 3; have hfz7_4 := blk_frozen BK107.out 4; have hfz7_5 := blk_frozen BK107.out 5; have hfz7_6 := blk_frozen BK107.out 6; have hfz7_7 := blk_frozen BK107.out 7; have hfz7_8 := blk_frozen BK107.out 8))
    (try simp only [Act.put, List.setIfInBounds_toArray, List.set_cons_zero, List.set_cons_succ])
    go_cut [5] (fun v5 wc => ∃ (kq : Nat) (x5_4 : Int), v5 = .int .i64 x5_4 ∧ Aside0 (ipv4_Make.j0 kq a1 x5_4 a0_0 a0_1 a0_2 a0_3 a0_4 a0_5 a0_6 a0_7 a0_8 = some r) ∧ Aside0 (kq ≤ k) ∧ Aside0 (wc.heap[gb107]? = some (.cells #[.int .u64 a0_0, .int .u64 a0_1, .int .u64 a0_2, .int .u64 a0_3, .int .i64 a0_4, .int .i64 a0_5, .int .i64 a0_6, .int .i64 a0_7, .bool a0_8] 112 (0, 0))) ∧ Aside0 (Below w.heap.size w wc))
    case first =>
      have H := HC5.out
      clear HC5
      by_cases c8 : a0_8 = true
      · subst c8
        have H1 : (ipv4_Make.j0 k a1 (Go.bits .or .i64 (Go.bits .and .i64 a0_7 8191) 8192) a0_0 a0_1 a0_2 a0_3 a0_4 a0_5 a0_6 a0_7 true) = some r := by rw [if_pos rfl] at H; exact H
        clear H
        have H := H1
        clear H1
        have H' := Aside0.mk H
        clear H
        go_wp2
        go_meet
        case rel => exact ⟨_, (Go.bits .or .i64 (Go.bits .and .i64 a0_7 8191) 8192), (by first | rfl | (simp; done) | (simp [*]; done)), H', ⟨by first | omega | exact Nat.le_refl _⟩, ⟨by (with_reducible repeat (first | refine blk_drewN ?_ _ | refine blk_drew ?_ | refine blk_alloc ?_ _)); exact BK107.out⟩, ⟨by repeat (first | (with_reducible first | exact HB.out | apply below_alloc | apply pw_below_drewN | apply below_drew1 | refine below_set ?_ GE107.out) | exact HB.out)⟩⟩
      · replace c8 := Bool.eq_false_iff.mpr c8
        subst c8
        have H1 : (ipv4_Make.j0 k a1 (Go.bits .and .i64 a0_7 8191) a0_0 a0_1 a0_2 a0_3 a0_4 a0_5 a0_6 a0_7 false) = some r := by rw [if_neg (show ¬ (false = true) by decide)] at H; exact H
        clear H
        have H := H1
        clear H1
        have H' := Aside0.mk H
        clear H
        go_wp2
        go_meet
        case rel => exact ⟨_, (Go.bits .and .i64 a0_7 8191), (by first | rfl | (simp; done) | (simp [*]; done)), H', ⟨by first | omega | exact Nat.le_refl _⟩, ⟨by (with_reducible repeat (first | refine blk_drewN ?_ _ | refine blk_drew ?_ | refine blk_alloc ?_ _)); exact BK107.out⟩, ⟨by repeat (first | (with_reducible first | exact HB.out | apply below_alloc | apply pw_below_drewN | apply below_drew1 | refine below_set ?_ GE107.out) | exact HB.out)⟩⟩
    case rest =>
      clear HC5
      try clear p2
      try clear c3
      try clear c3b0
      try clear c3b1
      try clear c8
      try clear hcz7_0
      try clear hcz7_1
      try clear hcz7_2
      try clear hcz7_3
      try clear hcz7_4
      try clear hcz7_5
      try clear hcz7_6
      try clear hcz7_7
      try clear hcz7_8
      try clear hfz7_0
      try clear hfz7_1
      try clear hfz7_2
      try clear hfz7_3
      try clear hfz7_4
      try clear hfz7_5
      try clear hfz7_6
      try clear hfz7_7
      try clear hfz7_8
      obtain ⟨kq, x5_4, rfl, HA, HJ4, BK107, HB⟩ := hcut
      cases kq with
      | zero => exact absurd HA.out (by simp [ipv4_Make.j0])
      | succ kj4 =>
        have H := HA.out
        clear HA
        simp only [ipv4_Make.j0] at H
        obtain ⟨y108, hy108⟩ : ∃ y_ : List Int, y_ = (([69, 0] : List Int)) := ⟨_, rfl⟩
        replace H : ((octets_PutU16.f y108 (wrap64 (20 + (a1.size : Int)))).bind fun t111 => ((octets_PutU16.f t111 0).bind fun t114 => ((octets_PutU16.f t114 x5_4).bind fun t117 => ((some (([0, (a0_4) % 256] : List Int) : List Int)).bind fun y120 => (if t117.length + y120.length < 140737488355328 then ((octets_PutU16.f (t117 ++ y120) 0).bind fun t126 => ((octets_PutU32.f t126 (wrap64 (Go.bits .and .u64 a0_1 4294967295))).bind fun t129 => ((octets_PutU32.f t129 (wrap64 (Go.bits .and .u64 a0_3 4294967295))).bind fun t132 => ((ipv4_Sum.f kj4 (strOfNums t132)).bind fun t135 => (if 10 < (t132.length : Int) then (if 11 < (t132.length : Int) then ((some ((t132.set (10 : Int).toNat ((t135 / 256) % 256)).set (11 : Int).toNat ((t135) % 256) : List Int)).bind fun y137 => (if (strOfNums y137).size + a1.size ≤ 9223372036854775807 then (some ((strOfNums y137) ++ a1)) else (none))) else (none)) else (none)))))) else (none)))))) = some r := by first | (rw [hy108]; with_reducible exact H) | (have H2_ := (Option.bind_some _ _).symm.trans H; rw [hy108]; with_reducible exact H2_) | (have H2_ := (Option.bind_some _ _).symm.trans H; with_reducible exact H2_) | with_reducible exact H | (rw [hy108]; exact H) | exact H
        have Ny108 := Aside0.mk hy108
        clear hy108
        replace H := Option.bind_eq_some_iff.mp H
        obtain ⟨t111, A90, H⟩ := H
        replace H : ((octets_PutU16.f t111 0).bind fun t114 => ((octets_PutU16.f t114 x5_4).bind fun t117 => ((some (([0, (a0_4) % 256] : List Int) : List Int)).bind fun y120 => (if t117.length + y120.length < 140737488355328 then ((octets_PutU16.f (t117 ++ y120) 0).bind fun t126 => ((octets_PutU32.f t126 (wrap64 (Go.bits .and .u64 a0_1 4294967295))).bind fun t129 => ((octets_PutU32.f t129 (wrap64 (Go.bits .and .u64 a0_3 4294967295))).bind fun t132 => ((ipv4_Sum.f kj4 (strOfNums t132)).bind fun t135 => (if 10 < (t132.length : Int) then (if 11 < (t132.length : Int) then ((some ((t132.set (10 : Int).toNat ((t135 / 256) % 256)).set (11 : Int).toNat ((t135) % 256) : List Int)).bind fun y137 => (if (strOfNums y137).size + a1.size ≤ 9223372036854775807 then (some ((strOfNums y137) ++ a1)) else (none))) else (none)) else (none)))))) else (none))))) = some r := H
        have A9 := Aside0.mk A90
        clear A90
        replace H := Option.bind_eq_some_iff.mp H
        obtain ⟨t114, A100, H⟩ := H
        replace H : ((octets_PutU16.f t114 x5_4).bind fun t117 => ((some (([0, (a0_4) % 256] : List Int) : List Int)).bind fun y120 => (if t117.length + y120.length < 140737488355328 then ((octets_PutU16.f (t117 ++ y120) 0).bind fun t126 => ((octets_PutU32.f t126 (wrap64 (Go.bits .and .u64 a0_1 4294967295))).bind fun t129 => ((octets_PutU32.f t129 (wrap64 (Go.bits .and .u64 a0_3 4294967295))).bind fun t132 => ((ipv4_Sum.f kj4 (strOfNums t132)).bind fun t135 => (if 10 < (t132.length : Int) then (if 11 < (t132.length : Int) then ((some ((t132.set (10 : Int).toNat ((t135 / 256) % 256)).set (11 : Int).toNat ((t135) % 256) : List Int)).bind fun y137 => (if (strOfNums y137).size + a1.size ≤ 9223372036854775807 then (some ((strOfNums y137) ++ a1)) else (none))) else (none)) else (none)))))) else (none)))) = some r := H
        have A10 := Aside0.mk A100
        clear A100
        replace H := Option.bind_eq_some_iff.mp H
        obtain ⟨t117, A110, H⟩ := H
        replace H : ((some (([0, (a0_4) % 256] : List Int) : List Int)).bind fun y120 => (if t117.length + y120.length < 140737488355328 then ((octets_PutU16.f (t117 ++ y120) 0).bind fun t126 => ((octets_PutU32.f t126 (wrap64 (Go.bits .and .u64 a0_1 4294967295))).bind fun t129 => ((octets_PutU32.f t129 (wrap64 (Go.bits .and .u64 a0_3 4294967295))).bind fun t132 => ((ipv4_Sum.f kj4 (strOfNums t132)).bind fun t135 => (if 10 < (t132.length : Int) then (if 11 < (t132.length : Int) then ((some ((t132.set (10 : Int).toNat ((t135 / 256) % 256)).set (11 : Int).toNat ((t135) % 256) : List Int)).bind fun y137 => (if (strOfNums y137).size + a1.size ≤ 9223372036854775807 then (some ((strOfNums y137) ++ a1)) else (none))) else (none)) else (none)))))) else (none))) = some r := H
        have A11 := Aside0.mk A110
        clear A110
        obtain ⟨y120, hy120⟩ : ∃ y_ : List Int, y_ = (([0, (a0_4) % 256] : List Int)) := ⟨_, rfl⟩
        replace H : (if t117.length + y120.length < 140737488355328 then ((octets_PutU16.f (t117 ++ y120) 0).bind fun t126 => ((octets_PutU32.f t126 (wrap64 (Go.bits .and .u64 a0_1 4294967295))).bind fun t129 => ((octets_PutU32.f t129 (wrap64 (Go.bits .and .u64 a0_3 4294967295))).bind fun t132 => ((ipv4_Sum.f kj4 (strOfNums t132)).bind fun t135 => (if 10 < (t132.length : Int) then (if 11 < (t132.length : Int) then ((some ((t132.set (10 : Int).toNat ((t135 / 256) % 256)).set (11 : Int).toNat ((t135) % 256) : List Int)).bind fun y137 => (if (strOfNums y137).size + a1.size ≤ 9223372036854775807 then (some ((strOfNums y137) ++ a1)) else (none))) else (none)) else (none)))))) else (none)) = some r := by first | (rw [hy120]; with_reducible exact H) | (have H2_ := (Option.bind_some _ _).symm.trans H; rw [hy120]; with_reducible exact H2_) | (have H2_ := (Option.bind_some _ _).symm.trans H; with_reducible exact H2_) | with_reducible exact H | (rw [hy120]; exact H) | exact H
        have Ny120 := Aside0.mk hy120
        clear hy120
        by_cases c12 : t117.length + y120.length < 140737488355328
        · rw [if_pos c12] at H
          have LMc12 := Aside0.mk c12
          clear c12
          obtain ⟨y123, hy123⟩ : ∃ y_ : List Int, y_ = (t117 ++ y120) := ⟨_, rfl⟩
          replace H : ((octets_PutU16.f y123 0).bind fun t126 => ((octets_PutU32.f t126 (wrap64 (Go.bits .and .u64 a0_1 4294967295))).bind fun t129 => ((octets_PutU32.f t129 (wrap64 (Go.bits .and .u64 a0_3 4294967295))).bind fun t132 => ((ipv4_Sum.f kj4 (strOfNums t132)).bind fun t135 => (if 10 < (t132.length : Int) then (if 11 < (t132.length : Int) then ((some ((t132.set (10 : Int).toNat ((t135 / 256) % 256)).set (11 : Int).toNat ((t135) % 256) : List Int)).bind fun y137 => (if (strOfNums y137).size + a1.size ≤ 9223372036854775807 then (some ((strOfNums y137) ++ a1)) else (none))) else (none)) else (none)))))) = some r := by first | (rw [hy123]; with_reducible exact H) | (have H2_ := (Option.bind_some _ _).symm.trans H; rw [hy123]; with_reducible exact H2_) | (have H2_ := (Option.bind_some _ _).symm.trans H; with_reducible exact H2_) | with_reducible exact H | (rw [hy123]; exact H) | exact H
          have Ny123 := Aside0.mk hy123
          clear hy123
          replace H := Option.bind_eq_some_iff.mp H
          obtain ⟨t126, A130, H⟩ := H
          replace H : ((octets_PutU32.f t126 (wrap64 (Go.bits .and .u64 a0_1 4294967295))).bind fun t129 => ((octets_PutU32.f t129 (wrap64 (Go.bits .and .u64 a0_3 4294967295))).bind fun t132 => ((ipv4_Sum.f kj4 (strOfNums t132)).bind fun t135 => (if 10 < (t132.length : Int) then (if 11 < (t132.length : Int) then ((some ((t132.set (10 : Int).toNat ((t135 / 256) % 256)).set (11 : Int).toNat ((t135) % 256) : List Int)).bind fun y137 => (if (strOfNums y137).size + a1.size ≤ 9223372036854775807 then (some ((strOfNums y137) ++ a1)) else (none))) else (none)) else (none))))) = some r := H
          have A13 := Aside0.mk A130
          clear A130
          replace H := Option.bind_eq_some_iff.mp H
          obtain ⟨t129, A140, H⟩ := H
          replace H : ((octets_PutU32.f t129 (wrap64 (Go.bits .and .u64 a0_3 4294967295))).bind fun t132 => ((ipv4_Sum.f kj4 (strOfNums t132)).bind fun t135 => (if 10 < (t132.length : Int) then (if 11 < (t132.length : Int) then ((some ((t132.set (10 : Int).toNat ((t135 / 256) % 256)).set (11 : Int).toNat ((t135) % 256) : List Int)).bind fun y137 => (if (strOfNums y137).size + a1.size ≤ 9223372036854775807 then (some ((strOfNums y137) ++ a1)) else (none))) else (none)) else (none)))) = some r := H
          have A14 := Aside0.mk A140
          clear A140
          replace H := Option.bind_eq_some_iff.mp H
          obtain ⟨t132, A150, H⟩ := H
          replace H : ((ipv4_Sum.f kj4 (strOfNums t132)).bind fun t135 => (if 10 < (t132.length : Int) then (if 11 < (t132.length : Int) then ((some ((t132.set (10 : Int).toNat ((t135 / 256) % 256)).set (11 : Int).toNat ((t135) % 256) : List Int)).bind fun y137 => (if (strOfNums y137).size + a1.size ≤ 9223372036854775807 then (some ((strOfNums y137) ++ a1)) else (none))) else (none)) else (none))) = some r := H
          have A15 := Aside0.mk A150
          clear A150
          replace H := Option.bind_eq_some_iff.mp H
          obtain ⟨t135, A160, H⟩ := H
          replace H : (if 10 < (t132.length : Int) then (if 11 < (t132.length : Int) then ((some ((t132.set (10 : Int).toNat ((t135 / 256) % 256)).set (11 : Int).toNat ((t135) % 256) : List Int)).bind fun y137 => (if (strOfNums y137).size + a1.size ≤ 9223372036854775807 then (some ((strOfNums y137) ++ a1)) else (none))) else (none)) else (none)) = some r := H
          have A16 := Aside0.mk A160
          clear A160
          by_cases c17 : 10 < (t132.length : Int)
          · rw [if_pos c17] at H
            have c17b0 : decide (10 < (t132.length : Int)) = true := decide_eq_true c17
            have c17b1 : decide (10 < t132.length) = true := decide_eq_true (by omega)
            clear c17
            obtain ⟨y136, hy136⟩ : ∃ y_ : List Int, y_ = (t132.set (10 : Int).toNat ((t135 / 256) % 256)) := ⟨_, rfl⟩
            replace H : (if 11 < (t132.length : Int) then ((some (y136.set (11 : Int).toNat ((t135) % 256) : List Int)).bind fun y137 => (if (strOfNums y137).size + a1.size ≤ 9223372036854775807 then (some ((strOfNums y137) ++ a1)) else (none))) else (none)) = some r := by first | (rw [hy136]; with_reducible exact H) | (have H2_ := (Option.bind_some _ _).symm.trans H; rw [hy136]; with_reducible exact H2_) | (have H2_ := (Option.bind_some _ _).symm.trans H; with_reducible exact H2_) | with_reducible exact H | (rw [hy136]; exact H) | exact H
            have Ny136 := Aside0.mk hy136
            clear hy136
            by_cases c19 : 11 < (t132.length : Int)
            · rw [if_pos c19] at H
              have c19b0 : decide (11 < (t132.length : Int)) = true := decide_eq_true c19
              have c19b1 : decide (11 < t132.length) = true := decide_eq_true (by omega)
              clear c19
              obtain ⟨y137, hy137⟩ : ∃ y_ : List Int, y_ = (y136.set (11 : Int).toNat ((t135) % 256)) := ⟨_, rfl⟩
              replace H : (if (strOfNums y137).size + a1.size ≤ 9223372036854775807 then (some ((strOfNums y137) ++ a1)) else (none)) = some r := by first | (rw [hy137]; with_reducible exact H) | (have H2_ := (Option.bind_some _ _).symm.trans H; rw [hy137]; with_reducible exact H2_) | (have H2_ := (Option.bind_some _ _).symm.trans H; with_reducible exact H2_) | with_reducible exact H | (rw [hy137]; exact H) | exact H
              have Ny137 := Aside0.mk hy137
              clear hy137
              by_cases c21 : (strOfNums y137).size + a1.size ≤ 9223372036854775807
              · rw [if_pos c21] at H
                have c21b0 := eq_true c21
                have c21b1 : decide ((strOfNums y137).size + a1.size ≤ 9223372036854775807) = true := decide_eq_true c21
                try have c21b2 : (9223372036854775807 < (strOfNums y137).size + a1.size) = False := eq_false (Nat.not_lt.2 c21)
                try have c21b9 := c21b2
                try simp only [ByteArray.size_append'] at c21b9
                obtain rfl := Option.some.inj H
                try go_wp2_with (first | ((with_reducible refine gate_dst (N := 18) rfl ?_); refine Kd.R_lit (Kd.int .u8) _ 5 ?hg (N := 18) ?hd (xs := ([69, 0] : List Int)) (inner := [.int .u8 69, .int .u8 0]) (ok := fun _ => True) (okp := fun _ => True) ?hr ?hp (fun _ hk => hk) trivial (Below.refl _ _) (Nat.le_refl _) (by simp) ?_; (case hd => rfl); (case hg => rfl); (case hr => first | (go_simp; done) | (go_simp; rfl)); (case hp => exact (Reps.one (show Kd.M (Kd.int .u8) _ _ _ 69 [.int .u8 69] from rfl) (Reps.one (show Kd.M (Kd.int .u8) _ _ _ 0 [.int .u8 0] from rfl) (Reps.none _ _)))); intro v109 w22 ho23 hb hg_ hnew_; clear hg_ hnew_; (first | rw [← Ny108.out] at ho23 | (simp only [Int.reduceToNat] at ho23; rw [← Ny108.out] at ho23)); have n0_ := Aside0.mk (Kd.R_lower ho23 (below_size (by repeat (first | (with_reducible first | exact HB.out | apply below_alloc | apply pw_below_drewN | apply below_drew1 | refine below_set ?_ GE107.out) | exact HB.out)))); have n1_ := Aside0.mk (blk_below (g := gb107) (o := .cells #[.int .u64 a0_0, .int .u64 a0_1, .int .u64 a0_2, .int .u64 a0_3, .int .i64 a0_4, .int .i64 a0_5, .int .i64 a0_6, .int .i64 a0_7, .bool a0_8] 112 (0, 0)) (by (with_reducible repeat (first | refine blk_drewN ?_ _ | refine blk_drew ?_ | refine blk_alloc ?_ _)); exact BK107.out) hb); have n2_ := Aside0.mk (below_step (by repeat (first | (with_reducible first | exact HB.out | apply below_alloc | apply pw_below_drewN | apply below_drew1 | refine below_set ?_ GE107.out) | exact HB.out)) hb); clear BK107; clear HB; have HO110 := n0_; have BK107 := n1_; have HB := n2_; clear n0_ n1_ n2_; clear hb ho23; obtain ⟨Ao24, co24, eo24⟩ := Kd.R_slice HO110.out; subst eo24) | ((with_reducible refine gate_callee (f := 20) rfl ?_); refine goesL_ (some 22) rfl rfl Try.func20 (by kernel_rfl) rfl #[.slice Ao24 y108.length co24, .int .i64 (wrap64 (20 + (a1.size : Int)))] rfl (by (try simp only [List.map_toArray, List.map_cons, List.map_nil]); first | done | rfl | (simp only [List.length_drop, List.length_take]; rfl)) ?_; (with_reducible refine (octets_PutU16.calls _ _ y108 (wrap64 (20 + (a1.size : Int))) t111 _ ?side1 ?side2 A9.out).mono ?_); (case side1 => repeat (first | exact (Kd.R_reads' HO110.out).2.2 | (with_reducible refine Kd.C_alloc ?_ _) | (with_reducible refine Kd.C_drewN ?_ _) | (with_reducible refine Kd.C_drew ?_))); (case side2 => exact (Kd.R_reads' HO110.out).2.1); rintro e w25 ⟨v112, rfl, ho0, hb⟩; refine ⟨_, rfl, ?_⟩; have n0_ := Aside0.mk (Kd.R_elder' (by (with_reducible repeat (first | apply Kd.R_alloc | apply Kd.R_drewN | apply Kd.R_drew)); exact HO110.out) (Kd.R_base ho0) hb); have n1_ := Aside0.mk (Kd.R_lower (Kd.R_new' ho0 (Kd.R_lt (by (with_reducible repeat (first | apply Kd.R_alloc | apply Kd.R_drewN | apply Kd.R_drew)); exact HO110.out))) (below_size (by repeat (first | (with_reducible first | exact HB.out | apply below_alloc | apply pw_below_drewN | apply below_drew1 | refine below_set ?_ GE107.out) | exact HB.out)))); have n2_ := Aside0.mk (blk_below (g := gb107) (o := .cells #[.int .u64 a0_0, .int .u64 a0_1, .int .u64 a0_2, .int .u64 a0_3, .int .i64 a0_4, .int .i64 a0_5, .int .i64 a0_6, .int .i64 a0_7, .bool a0_8] 112 (0, 0)) (by (with_reducible repeat (first | refine blk_drewN ?_ _ | refine blk_drew ?_ | refine blk_alloc ?_ _)); exact BK107.out) hb); have n3_ := Aside0.mk (below_step (by repeat (first | (with_reducible first | exact HB.out | apply below_alloc | apply pw_below_drewN | apply below_drew1 | refine below_set ?_ GE107.out) | exact HB.out)) hb); clear HO110; clear BK107; clear HB; have HO110 := n0_; have HO113 := n1_; have BK107 := n2_; have HB := n3_; clear n0_ n1_ n2_ n3_; (try clear hb); (try clear hb2); (try clear hk); (try clear hi); (try clear ho0); obtain ⟨Ao26, co26, eo26⟩ := Kd.R_slice HO113.out; subst eo26) | ((with_reducible refine gate_callee (f := 20) rfl ?_); refine goesL_ (some 24) rfl rfl Try.func20 (by kernel_rfl) rfl #[.slice Ao26 t111.length co26, .int .i64 0] rfl (by (try simp only [List.map_toArray, List.map_cons, List.map_nil]); first | done | rfl | (simp only [List.length_drop, List.length_take]; rfl)) ?_; (with_reducible refine (octets_PutU16.calls _ _ t111 0 t114 _ ?side1 ?side2 A10.out).mono ?_); (case side1 => repeat (first | exact (Kd.R_reads' HO113.out).2.2 | (with_reducible refine Kd.C_alloc ?_ _) | (with_reducible refine Kd.C_drewN ?_ _) | (with_reducible refine Kd.C_drew ?_))); (case side2 => exact (Kd.R_reads' HO113.out).2.1); rintro e w27 ⟨v115, rfl, ho0, hb⟩; refine ⟨_, rfl, ?_⟩; have n0_ := Aside0.mk (Kd.R_elder' (by (with_reducible repeat (first | apply Kd.R_alloc | apply Kd.R_drewN | apply Kd.R_drew)); exact HO110.out) (Kd.R_base ho0) hb); have n1_ := Aside0.mk (Kd.R_elder' (by (with_reducible repeat (first | apply Kd.R_alloc | apply Kd.R_drewN | apply Kd.R_drew)); exact HO113.out) (Kd.R_base ho0) hb); have n2_ := Aside0.mk (Kd.R_lower (Kd.R_new' (Kd.R_new' ho0 (Kd.R_lt (by (with_reducible repeat (first | apply Kd.R_alloc | apply Kd.R_drewN | apply Kd.R_drew)); exact HO110.out))) (Kd.R_lt (by (with_reducible repeat (first | apply Kd.R_alloc | apply Kd.R_drewN | apply Kd.R_drew)); exact HO113.out))) (below_size (by repeat (first | (with_reducible first | exact HB.out | apply below_alloc | apply pw_below_drewN | apply below_drew1 | refine below_set ?_ GE107.out) | exact HB.out)))); have n3_ := Aside0.mk (blk_below (g := gb107) (o := .cells #[.int .u64 a0_0, .int .u64 a0_1, .int .u64 a0_2, .int .u64 a0_3, .int .i64 a0_4, .int .i64 a0_5, .int .i64 a0_6, .int .i64 a0_7, .bool a0_8] 112 (0, 0)) (by (with_reducible repeat (first | refine blk_drewN ?_ _ | refine blk_drew ?_ | refine blk_alloc ?_ _)); exact BK107.out) hb); have n4_ := Aside0.mk (below_step (by repeat (first | (with_reducible first | exact HB.out | apply below_alloc | apply pw_below_drewN | apply below_drew1 | refine below_set ?_ GE107.out) | exact HB.out)) hb); clear HO110; clear HO113; clear BK107; clear HB; have HO110 := n0_; have HO113 := n1_; have HO116 := n2_; have BK107 := n3_; have HB := n4_; clear n0_ n1_ n2_ n3_ n4_; (try clear hb); (try clear hb2); (try clear hk); (try clear hi); (try clear ho0); obtain ⟨Ao28, co28, eo28⟩ := Kd.R_slice HO116.out; subst eo28) | ((with_reducible refine gate_callee (f := 20) rfl ?_); refine goesL_ (some 26) rfl rfl Try.func20 (by kernel_rfl) rfl #[.slice Ao28 t114.length co28, .int .i64 x5_4] rfl (by (try simp only [List.map_toArray, List.map_cons, List.map_nil]); first | done | rfl | (simp only [List.length_drop, List.length_take]; rfl)) ?_; (with_reducible refine (octets_PutU16.calls _ _ t114 x5_4 t117 _ ?side1 ?side2 A11.out).mono ?_); (case side1 => repeat (first | exact (Kd.R_reads' HO116.out).2.2 | (with_reducible refine Kd.C_alloc ?_ _) | (with_reducible refine Kd.C_drewN ?_ _) | (with_reducible refine Kd.C_drew ?_))); (case side2 => exact (Kd.R_reads' HO116.out).2.1); rintro e w29 ⟨v118, rfl, ho0, hb⟩; refine ⟨_, rfl, ?_⟩; have n0_ := Aside0.mk (Kd.R_elder' (by (with_reducible repeat (first | apply Kd.R_alloc | apply Kd.R_drewN | apply Kd.R_drew)); exact HO110.out) (Kd.R_base ho0) hb); have n1_ := Aside0.mk (Kd.R_elder' (by (with_reducible repeat (first | apply Kd.R_alloc | apply Kd.R_drewN | apply Kd.R_drew)); exact HO113.out) (Kd.R_base ho0) hb); have n2_ := Aside0.mk (Kd.R_elder' (by (with_reducible repeat (first | apply Kd.R_alloc | apply Kd.R_drewN | apply Kd.R_drew)); exact HO116.out) (Kd.R_base ho0) hb); have n3_ := Aside0.mk (Kd.R_lower (Kd.R_new' (Kd.R_new' (Kd.R_new' ho0 (Kd.R_lt (by (with_reducible repeat (first | apply Kd.R_alloc | apply Kd.R_drewN | apply Kd.R_drew)); exact HO110.out))) (Kd.R_lt (by (with_reducible repeat (first | apply Kd.R_alloc | apply Kd.R_drewN | apply Kd.R_drew)); exact HO113.out))) (Kd.R_lt (by (with_reducible repeat (first | apply Kd.R_alloc | apply Kd.R_drewN | apply Kd.R_drew)); exact HO116.out))) (below_size (by repeat (first | (with_reducible first | exact HB.out | apply below_alloc | apply pw_below_drewN | apply below_drew1 | refine below_set ?_ GE107.out) | exact HB.out)))); have n4_ := Aside0.mk (blk_below (g := gb107) (o := .cells #[.int .u64 a0_0, .int .u64 a0_1, .int .u64 a0_2, .int .u64 a0_3, .int .i64 a0_4, .int .i64 a0_5, .int .i64 a0_6, .int .i64 a0_7, .bool a0_8] 112 (0, 0)) (by (with_reducible repeat (first | refine blk_drewN ?_ _ | refine blk_drew ?_ | refine blk_alloc ?_ _)); exact BK107.out) hb); have n5_ := Aside0.mk (below_step (by repeat (first | (with_reducible first | exact HB.out | apply below_alloc | apply pw_below_drewN | apply below_drew1 | refine below_set ?_ GE107.out) | exact HB.out)) hb); clear HO110; clear HO113; clear HO116; clear BK107; clear HB; have HO110 := n0_; have HO113 := n1_; have HO116 := n2_; have HO119 := n3_; have BK107 := n4_; have HB := n5_; clear n0_ n1_ n2_ n3_ n4_ n5_; (try clear hb); (try clear hb2); (try clear hk); (try clear hi); (try clear ho0); have hcz30_0 : w29.cell? ⟨gb107, 0, none⟩ = some (.int .u64 a0_0) := (blk_cell BK107.out 0).trans rfl; have hcz30_1 : w29.cell? ⟨gb107, 1, none⟩ = some (.int .u64 a0_1) := (blk_cell BK107.out 1).trans rfl; have hcz30_2 : w29.cell? ⟨gb107, 2, none⟩ = some (.int .u64 a0_2) := (blk_cell BK107.out 2).trans rfl; have hcz30_3 : w29.cell? ⟨gb107, 3, none⟩ = some (.int .u64 a0_3) := (blk_cell BK107.out 3).trans rfl; have hcz30_4 : w29.cell? ⟨gb107, 4, none⟩ = some (.int .i64 a0_4) := (blk_cell BK107.out 4).trans rfl; have hcz30_5 : w29.cell? ⟨gb107, 5, none⟩ = some (.int .i64 a0_5) := (blk_cell BK107.out 5).trans rfl; have hcz30_6 : w29.cell? ⟨gb107, 6, none⟩ = some (.int .i64 a0_6) := (blk_cell BK107.out 6).trans rfl; have hcz30_7 : w29.cell? ⟨gb107, 7, none⟩ = some (.int .i64 a0_7) := (blk_cell BK107.out 7).trans rfl; have hcz30_8 : w29.cell? ⟨gb107, 8, none⟩ = some (.bool a0_8) := (blk_cell BK107.out 8).trans rfl; have hfz30_0 := blk_frozen BK107.out 0; have hfz30_1 := blk_frozen BK107.out 1; have hfz30_2 := blk_frozen BK107.out 2; have hfz30_3 := blk_frozen BK107.out 3; have hfz30_4 := blk_frozen BK107.out 4; have hfz30_5 := blk_frozen BK107.out 5; have hfz30_6 := blk_frozen BK107.out 6; have hfz30_7 := blk_frozen BK107.out 7; have hfz30_8 := blk_frozen BK107.out 8) | ((with_reducible refine gate_dst (N := 31) rfl ?_); refine Kd.R_lit (Kd.int .u8) _ 5 ?hg (N := 31) ?hd (xs := ([0, (a0_4) % 256] : List Int)) (inner := [.int .u8 0, .int .u8 ((a0_4) % 256)]) (ok := fun _ => True) (okp := fun _ => True) ?hr ?hp (fun _ hk => hk) trivial (Below.refl _ _) (Nat.le_refl _) (by simp) ?_; (case hd => rfl); (case hg => rfl); (case hr => first | (go_simp; done) | (go_simp; rfl)); (case hp => exact (Reps.one (show Kd.M (Kd.int .u8) _ _ _ 0 [.int .u8 0] from rfl) (Reps.one (show Kd.M (Kd.int .u8) _ _ _ ((a0_4) % 256) [.int .u8 ((a0_4) % 256)] from rfl) (Reps.none _ _)))); intro v121 w31 ho32 hb hg_ hnew_; clear hg_ hnew_; (first | rw [← Ny120.out] at ho32 | (simp only [Int.reduceToNat] at ho32; rw [← Ny120.out] at ho32)); have n0_ := Aside0.mk (Kd.R_elder' (by (with_reducible repeat (first | apply Kd.R_alloc | apply Kd.R_drewN | apply Kd.R_drew)); exact HO110.out) (Kd.R_base ho32) hb); have n1_ := Aside0.mk (Kd.R_elder' (by (with_reducible repeat (first | apply Kd.R_alloc | apply Kd.R_drewN | apply Kd.R_drew)); exact HO113.out) (Kd.R_base ho32) hb); have n2_ := Aside0.mk (Kd.R_elder' (by (with_reducible repeat (first | apply Kd.R_alloc | apply Kd.R_drewN | apply Kd.R_drew)); exact HO116.out) (Kd.R_base ho32) hb); have n3_ := Aside0.mk (Kd.R_elder' (by (with_reducible repeat (first | apply Kd.R_alloc | apply Kd.R_drewN | apply Kd.R_drew)); exact HO119.out) (Kd.R_base ho32) hb); have n4_ := Aside0.mk (Kd.R_lower (Kd.R_new' (Kd.R_new' (Kd.R_new' (Kd.R_new' ho32 (Kd.R_lt (by (with_reducible repeat (first | apply Kd.R_alloc | apply Kd.R_drewN | apply Kd.R_drew)); exact HO110.out))) (Kd.R_lt (by (with_reducible repeat (first | apply Kd.R_alloc | apply Kd.R_drewN | apply Kd.R_drew)); exact HO113.out))) (Kd.R_lt (by (with_reducible repeat (first | apply Kd.R_alloc | apply Kd.R_drewN | apply Kd.R_drew)); exact HO116.out))) (Kd.R_lt (by (with_reducible repeat (first | apply Kd.R_alloc | apply Kd.R_drewN | apply Kd.R_drew)); exact HO119.out))) (below_size (by repeat (first | (with_reducible first | exact HB.out | apply below_alloc | apply pw_below_drewN | apply below_drew1 | refine below_set ?_ GE107.out) | exact HB.out)))); have n5_ := Aside0.mk (blk_below (g := gb107) (o := .cells #[.int .u64 a0_0, .int .u64 a0_1, .int .u64 a0_2, .int .u64 a0_3, .int .i64 a0_4, .int .i64 a0_5, .int .i64 a0_6, .int .i64 a0_7, .bool a0_8] 112 (0, 0)) (by (with_reducible repeat (first | refine blk_drewN ?_ _ | refine blk_drew ?_ | refine blk_alloc ?_ _)); exact BK107.out) hb); have n6_ := Aside0.mk (below_step (by repeat (first | (with_reducible first | exact HB.out | apply below_alloc | apply pw_below_drewN | apply below_drew1 | refine below_set ?_ GE107.out) | exact HB.out)) hb); clear HO110; clear HO113; clear HO116; clear HO119; clear BK107; clear HB; have HO110 := n0_; have HO113 := n1_; have HO116 := n2_; have HO119 := n3_; have HO122 := n4_; have BK107 := n5_; have HB := n6_; clear n0_ n1_ n2_ n3_ n4_ n5_ n6_; clear hb ho32; obtain ⟨Ao34, co34, eo34⟩ := Kd.R_slice HO122.out; subst eo34) | ((with_reducible refine gate_builtin (b := .append) (xs := #[.tmp 27, .tmp 31]) rfl ?_); at_builtin; refine Kd.R_append_rows (Kd.int .u8) (w0 := w) w.heap.size rfl (.tmp 27) (.tmp 31) 22 5 (.int .u8 0) 1 rfl Try.underlying22 info5 rfl (by decide) (by omega) v118 t117 y120 _ _ _ (fun k_ => some k_ ≠ (.slice Ao24 y108.length co24 : Value).ownBlock ∧ some k_ ≠ (.slice Ao26 t111.length co26 : Value).ownBlock ∧ some k_ ≠ (.slice Ao28 t114.length co28 : Value).ownBlock ∧ some k_ ≠ (.slice Ao34 y120.length co34 : Value).ownBlock) (fun _ => False) rfl rfl ?aO ?aR (fun _ _ h => h) (fun _ h => h.elim) ?aF ?aB ?aS ?aL ?_; (case aR => repeat (first | exact (Kd.R_reads' HO122.out).2.2 | (with_reducible refine Kd.C_alloc ?_ _) | (with_reducible refine Kd.C_drewN ?_ _) | (with_reducible refine Kd.C_drew ?_))); (case aB => exact (by repeat (first | (with_reducible first | exact HB.out | apply below_alloc | apply pw_below_drewN | apply below_drew1 | refine below_set ?_ GE107.out) | exact HB.out))); (case aF => exact (fun k_ hk => ⟨Kd.fresh' (Kd.R_lt (by (with_reducible repeat (first | apply Kd.R_alloc | apply Kd.R_drewN | apply Kd.R_drew)); exact HO110.out)) k_ hk, Kd.fresh' (Kd.R_lt (by (with_reducible repeat (first | apply Kd.R_alloc | apply Kd.R_drewN | apply Kd.R_drew)); exact HO113.out)) k_ hk, Kd.fresh' (Kd.R_lt (by (with_reducible repeat (first | apply Kd.R_alloc | apply Kd.R_drewN | apply Kd.R_drew)); exact HO116.out)) k_ hk, Kd.fresh' (Kd.R_lt (by (with_reducible repeat (first | apply Kd.R_alloc | apply Kd.R_drewN | apply Kd.R_drew)); exact HO122.out)) k_ hk⟩)); (case aO => exact (by (with_reducible repeat (first | apply Kd.R_alloc | apply Kd.R_drewN | apply Kd.R_drew)); exact Kd.R_mono HO119.out (fun _ hk => ⟨hk.1.1.1.2, ⟨hk.1.1.2, ⟨hk.1.2, hk.2⟩⟩⟩))); (case aS => exact (below_size (by repeat (first | (with_reducible first | exact HB.out | apply below_alloc | apply pw_below_drewN | apply below_drew1 | refine below_set ?_ GE107.out) | exact HB.out)))); (case aL => have := LMc12.out; omega); intro v124 w33 ho hb hg hat; rw [← Ny123.out] at ho; have n0_ := Aside0.mk (blk_grown (g := gb107) (o := .cells #[.int .u64 a0_0, .int .u64 a0_1, .int .u64 a0_2, .int .u64 a0_3, .int .i64 a0_4, .int .i64 a0_5, .int .i64 a0_6, .int .i64 a0_7, .bool a0_8] 112 (0, 0)) (by (with_reducible repeat (first | refine blk_drewN ?_ _ | refine blk_drew ?_ | refine blk_alloc ?_ _)); exact BK107.out) hg (Kd.R_ne HO119.out BK107.out (by decide))); have n1_ := Aside0.mk (Kd.R_after (ok := (fun k_ => some k_ ≠ (.slice Ao26 t111.length co26 : Value).ownBlock ∧ some k_ ≠ (.slice Ao28 t114.length co28 : Value).ownBlock ∧ some k_ ≠ (.slice Ao34 y120.length co34 : Value).ownBlock)) (by (with_reducible repeat (first | apply Kd.R_alloc | apply Kd.R_drewN | apply Kd.R_drew)); exact Kd.R_mono HO110.out (fun _ hk => ⟨⟨hk.1.1.1.2, ⟨hk.1.1.2, hk.2⟩⟩, hk.1.2⟩)) hg hat); have n2_ := Aside0.mk (Kd.R_after (ok := (fun k_ => some k_ ≠ (.slice Ao24 y108.length co24 : Value).ownBlock ∧ some k_ ≠ (.slice Ao28 t114.length co28 : Value).ownBlock ∧ some k_ ≠ (.slice Ao34 y120.length co34 : Value).ownBlock)) (by (with_reducible repeat (first | apply Kd.R_alloc | apply Kd.R_drewN | apply Kd.R_drew)); exact Kd.R_mono HO113.out (fun _ hk => ⟨⟨hk.1.1.1.2, ⟨hk.1.1.2, hk.2⟩⟩, hk.1.2⟩)) hg hat); have n3_ := Aside0.mk (Kd.R_after (ok := (fun k_ => some k_ ≠ (.slice Ao24 y108.length co24 : Value).ownBlock ∧ some k_ ≠ (.slice Ao26 t111.length co26 : Value).ownBlock ∧ some k_ ≠ (.slice Ao34 y120.length co34 : Value).ownBlock)) (by (with_reducible repeat (first | apply Kd.R_alloc | apply Kd.R_drewN | apply Kd.R_drew)); exact Kd.R_mono HO116.out (fun _ hk => ⟨⟨hk.1.1.1.2, ⟨hk.1.1.2, hk.2⟩⟩, hk.1.2⟩)) hg hat); have n4_ := Aside0.mk (Kd.R_after (ok := (fun k_ => some k_ ≠ (.slice Ao24 y108.length co24 : Value).ownBlock ∧ some k_ ≠ (.slice Ao26 t111.length co26 : Value).ownBlock ∧ some k_ ≠ (.slice Ao28 t114.length co28 : Value).ownBlock)) (by (with_reducible repeat (first | apply Kd.R_alloc | apply Kd.R_drewN | apply Kd.R_drew)); exact Kd.R_mono HO122.out (fun _ hk => ⟨⟨hk.1.1.1.2, ⟨hk.1.1.2, hk.1.2⟩⟩, hk.2⟩)) hg hat); have n5_ := Aside0.mk (hb); have n6_ := Aside0.mk (ho); clear BK107; clear HO110; clear HO113; clear HO116; clear HO122; clear HB; clear HO119; have BK107 := n0_; have HO110 := n1_; have HO113 := n2_; have HO116 := n3_; have HO122 := n4_; have HB := n5_; have HO125 := n6_; clear n0_ n1_ n2_ n3_ n4_ n5_ n6_; clear ho hb hg hat; obtain ⟨Ao35, co35, eo35⟩ := Kd.R_slice HO125.out; subst eo35) | ((with_reducible refine gate_callee (f := 20) rfl ?_); refine goesL_ (some 33) rfl rfl Try.func20 (by kernel_rfl) rfl #[.slice Ao35 y123.length co35, .int .i64 0] rfl (by (try simp only [List.map_toArray, List.map_cons, List.map_nil]); first | done | rfl | (simp only [List.length_drop, List.length_take]; rfl)) ?_; (with_reducible refine (octets_PutU16.calls _ _ y123 0 t126 _ ?side1 ?side2 A13.out).mono ?_); (case side1 => repeat (first | exact (Kd.R_reads' HO125.out).2.2 | (with_reducible refine Kd.C_alloc ?_ _) | (with_reducible refine Kd.C_drewN ?_ _) | (with_reducible refine Kd.C_drew ?_))); (case side2 => exact (Kd.R_reads' HO125.out).2.1); rintro e w36 ⟨v127, rfl, ho0, hb⟩; refine ⟨_, rfl, ?_⟩; have n0_ := Aside0.mk (Kd.R_elder' (by (with_reducible repeat (first | apply Kd.R_alloc | apply Kd.R_drewN | apply Kd.R_drew)); exact HO110.out) (Kd.R_base ho0) hb); have n1_ := Aside0.mk (Kd.R_elder' (by (with_reducible repeat (first | apply Kd.R_alloc | apply Kd.R_drewN | apply Kd.R_drew)); exact HO113.out) (Kd.R_base ho0) hb); have n2_ := Aside0.mk (Kd.R_elder' (by (with_reducible repeat (first | apply Kd.R_alloc | apply Kd.R_drewN | apply Kd.R_drew)); exact HO116.out) (Kd.R_base ho0) hb); have n3_ := Aside0.mk (Kd.R_elder' (by (with_reducible repeat (first | apply Kd.R_alloc | apply Kd.R_drewN | apply Kd.R_drew)); exact HO122.out) (Kd.R_base ho0) hb); have n4_ := Aside0.mk (Kd.R_elder' (by (with_reducible repeat (first | apply Kd.R_alloc | apply Kd.R_drewN | apply Kd.R_drew)); exact HO125.out) (Kd.R_base ho0) hb); have n5_ := Aside0.mk (Kd.R_lower (Kd.R_new' (Kd.R_new' (Kd.R_new' (Kd.R_new' (Kd.R_new' ho0 (Kd.R_lt (by (with_reducible repeat (first | apply Kd.R_alloc | apply Kd.R_drewN | apply Kd.R_drew)); exact HO110.out))) (Kd.R_lt (by (with_reducible repeat (first | apply Kd.R_alloc | apply Kd.R_drewN | apply Kd.R_drew)); exact HO113.out))) (Kd.R_lt (by (with_reducible repeat (first | apply Kd.R_alloc | apply Kd.R_drewN | apply Kd.R_drew)); exact HO116.out))) (Kd.R_lt (by (with_reducible repeat (first | apply Kd.R_alloc | apply Kd.R_drewN | apply Kd.R_drew)); exact HO122.out))) (Kd.R_lt (by (with_reducible repeat (first | apply Kd.R_alloc | apply Kd.R_drewN | apply Kd.R_drew)); exact HO125.out))) (below_size (by repeat (first | (with_reducible first | exact HB.out | apply below_alloc | apply pw_below_drewN | apply below_drew1 | refine below_set ?_ GE107.out) | exact HB.out)))); have n6_ := Aside0.mk (blk_below (g := gb107) (o := .cells #[.int .u64 a0_0, .int .u64 a0_1, .int .u64 a0_2, .int .u64 a0_3, .int .i64 a0_4, .int .i64 a0_5, .int .i64 a0_6, .int .i64 a0_7, .bool a0_8] 112 (0, 0)) (by (with_reducible repeat (first | refine blk_drewN ?_ _ | refine blk_drew ?_ | refine blk_alloc ?_ _)); exact BK107.out) hb); have n7_ := Aside0.mk (below_step (by repeat (first | (with_reducible first | exact HB.out | apply below_alloc | apply pw_below_drewN | apply below_drew1 | refine below_set ?_ GE107.out) | exact HB.out)) hb); clear HO110; clear HO113; clear HO116; clear HO122; clear HO125; clear BK107; clear HB; have HO110 := n0_; have HO113 := n1_; have HO116 := n2_; have HO122 := n3_; have HO125 := n4_; have HO128 := n5_; have BK107 := n6_; have HB := n7_; clear n0_ n1_ n2_ n3_ n4_ n5_ n6_ n7_; (try clear hb); (try clear hb2); (try clear hk); (try clear hi); (try clear ho0)))
                have n0_ := Aside0.mk (Kd.R_drew HO110.out)
                have n1_ := Aside0.mk (Kd.R_drew HO113.out)
                have n2_ := Aside0.mk (Kd.R_drew HO116.out)
                have n3_ := Aside0.mk (Kd.R_drew HO122.out)
                have n4_ := Aside0.mk (Kd.R_drew HO125.out)
                have n5_ := Aside0.mk (Kd.R_drew HO128.out)
                have n6_ := Aside0.mk (blk_drew BK107.out)
                have n7_ := Aside0.mk (below_drew1 HB.out)
                clear HO110
                clear HO113
                clear HO116
                clear HO122
                clear HO125
                clear HO128
                clear BK107
                clear HB
                have HO110 := n0_
                have HO113 := n1_
                have HO116 := n2_
                have HO122 := n3_
                have HO125 := n4_
                have HO128 := n5_
                have BK107 := n6_
                have HB := n7_
                clear n0_ n1_ n2_ n3_ n4_ n5_ n6_ n7_
                obtain ⟨Ao38, co38, eo38⟩ := Kd.R_slice HO128.out
                (first | subst eo38 | (injection eo38 with f1_ f2_ f3_; have f4_ := f1_.symm; have f5_ := f3_.symm; clear f1_ f2_ f3_; subst f4_; subst f5_))
                refine start_ (n := 14) (S := fun w' => w'.cell? ⟨gb107, 0, none⟩ = some (.int .u64 a0_0) ∧ w'.cell? ⟨gb107, 1, none⟩ = some (.int .u64 a0_1) ∧ w'.cell? ⟨gb107, 2, none⟩ = some (.int .u64 a0_2) ∧ w'.cell? ⟨gb107, 3, none⟩ = some (.int .u64 a0_3) ∧ w'.cell? ⟨gb107, 4, none⟩ = some (.int .i64 a0_4) ∧ w'.cell? ⟨gb107, 5, none⟩ = some (.int .i64 a0_5) ∧ w'.cell? ⟨gb107, 6, none⟩ = some (.int .i64 a0_6) ∧ w'.cell? ⟨gb107, 7, none⟩ = some (.int .i64 a0_7) ∧ w'.cell? ⟨gb107, 8, none⟩ = some (.bool a0_8)) (ds := []) #[false, false, false, false, false, false, false, false, false, false, false, false, false, false] (by kernel_rfl) rfl rfl ⟨(blk_cell BK107.out 0).trans rfl, (blk_cell BK107.out 1).trans rfl, (blk_cell BK107.out 2).trans rfl, (blk_cell BK107.out 3).trans rfl, (blk_cell BK107.out 4).trans rfl, (blk_cell BK107.out 5).trans rfl, (blk_cell BK107.out 6).trans rfl, (blk_cell BK107.out 7).trans rfl, (blk_cell BK107.out 8).trans rfl⟩ (fun hHeld => ?_); refine with_tabW ipv4_Make.tab9 ipv4_Make.bits9 (fun HT_ HW_ => ?_)
                generalize w36.drew = w37 at HO110 HO113 HO116 HO122 HO125 HO128 BK107 HB hHeld ⊢
                refine pure_ (i := 0) (N := some 34) (v := ?_) (a' := ?_) #[true, false, false, false, false, false, false, false, false, false, false, false, false, false] rfl rfl (any_of HT_.out (by kernel_rfl)) (fun _ _ _ h => h) (Or.inl ⟨by rfl, ?_⟩) ?_ ?_
                rotate_left
                · intro w'
                  go_simp
                  with_reducible rfl
                rotate_left
                · simp only [Act.put, List.setIfInBounds_toArray, List.set_cons_zero, List.set_cons_succ, i64_w, i32_w]
                  rfl
                refine pure_ (i := 1) (N := some 35) (v := ?_) (a' := ?_) #[true, true, false, false, false, false, false, false, false, false, false, false, false, false] rfl rfl (any_of HT_.out (by kernel_rfl)) (fun _ _ _ h => h) (Or.inl ⟨by rfl, ?_⟩) ?_ ?_
                rotate_left
                · intro w'
                  go_simp
                  with_reducible rfl
                rotate_left
                · simp only [Act.put, List.setIfInBounds_toArray, List.set_cons_zero, List.set_cons_succ, i64_w, i32_w]
                  rfl
                refine pure_ (i := 2) (N := some 36) (v := ?_) (a' := ?_) #[true, true, true, false, false, false, false, false, false, false, false, false, false, false] rfl rfl (any_of HT_.out (by kernel_rfl)) (fun _ _ _ h => h) (Or.inl ⟨by rfl, ?_⟩) ?_ ?_
                rotate_left
                · intro w'
                  go_simp
                  with_reducible rfl
                rotate_left
                · simp only [Act.put, List.setIfInBounds_toArray, List.set_cons_zero, List.set_cons_succ, i64_w, i32_w]
                  rfl
                refine pure_ (i := 7) (N := some 41) (v := ?_) (a' := ?_) #[true, true, true, false, false, false, false, true, false, false, false, false, false, false] rfl rfl (any_of HT_.out (by kernel_rfl)) (fun _ _ _ h => h) (Or.inl ⟨by rfl, ?_⟩) ?_ ?_
                rotate_left
                · intro w'
                  go_simp
                  with_reducible rfl
                rotate_left
                · simp only [Act.put, List.setIfInBounds_toArray, List.set_cons_zero, List.set_cons_succ, i64_w, i32_w]
                  rfl
                refine pure_ (i := 8) (N := some 42) (v := ?_) (a' := ?_) #[true, true, true, false, false, false, false, true, true, false, false, false, false, false] rfl rfl (any_of HT_.out (by kernel_rfl)) (fun _ _ _ h => h) (Or.inl ⟨by rfl, ?_⟩) ?_ ?_
                rotate_left
                · intro w'
                  go_simp
                  with_reducible rfl
                rotate_left
                · simp only [Act.put, List.setIfInBounds_toArray, List.set_cons_zero, List.set_cons_succ, i64_w, i32_w]
                  rfl
                refine take_ (i := 3) (N := some 37) (v := ?_) (a' := ?_) #[true, true, true, true, false, false, false, true, true, false, false, false, false, false] rfl rfl (take_ofW HT_.out HW_.out (by kernel_rfl)) (fun _ _ _ h => h) (Or.inl ⟨by rfl, ?_⟩) hHeld ?_ ?_
                rotate_left
                · rintro w' ⟨s0, s1, s2, s3, s4, s5, s6, s7, s8⟩
                  go_simp
                  with_reducible rfl
                rotate_left
                · simp only [Act.put, List.setIfInBounds_toArray, List.set_cons_zero, List.set_cons_succ, i64_w, i32_w]
                  rfl
                refine pure_ (i := 4) (N := some 38) (v := ?_) (a' := ?_) #[true, true, true, true, true, false, false, true, true, false, false, false, false, false] rfl rfl (any_of HT_.out (by kernel_rfl)) (fun _ _ _ h => h) (Or.inl ⟨by rfl, ?_⟩) ?_ ?_
                rotate_left
                · intro w'
                  go_simp
                  with_reducible rfl
                rotate_left
                · simp only [Act.put, List.setIfInBounds_toArray, List.set_cons_zero, List.set_cons_succ, i64_w, i32_w]
                  rfl
                refine pure_ (i := 5) (N := some 39) (v := ?_) (a' := ?_) #[true, true, true, true, true, true, false, true, true, false, false, false, false, false] rfl rfl (any_of HT_.out (by kernel_rfl)) (fun _ _ _ h => h) (Or.inl ⟨by rfl, ?_⟩) ?_ ?_
                rotate_left
                · intro w'
                  go_simp
                  with_reducible rfl
                rotate_left
                · simp only [Act.put, List.setIfInBounds_toArray, List.set_cons_zero, List.set_cons_succ, i64_w, i32_w]
                  rfl
                refine take_ (i := 9) (N := some 43) (v := ?_) (a' := ?_) #[true, true, true, true, true, true, false, true, true, true, false, false, false, false] rfl rfl (take_ofW HT_.out HW_.out (by kernel_rfl)) (fun _ _ _ h => h) (Or.inl ⟨by rfl, ?_⟩) hHeld ?_ ?_
                rotate_left
                · rintro w' ⟨s0, s1, s2, s3, s4, s5, s6, s7, s8⟩
                  go_simp
                  with_reducible rfl
                rotate_left
                · simp only [Act.put, List.setIfInBounds_toArray, List.set_cons_zero, List.set_cons_succ, i64_w, i32_w]
                  rfl
                refine pure_ (i := 10) (N := some 44) (v := ?_) (a' := ?_) #[true, true, true, true, true, true, false, true, true, true, true, false, false, false] rfl rfl (any_of HT_.out (by kernel_rfl)) (fun _ _ _ h => h) (Or.inl ⟨by rfl, ?_⟩) ?_ ?_
                rotate_left
                · intro w'
                  go_simp
                  with_reducible rfl
                rotate_left
                · simp only [Act.put, List.setIfInBounds_toArray, List.set_cons_zero, List.set_cons_succ, i64_w, i32_w]
                  rfl
                refine pure_ (i := 11) (N := some 45) (v := ?_) (a' := ?_) #[true, true, true, true, true, true, false, true, true, true, true, true, false, false] rfl rfl (any_of HT_.out (by kernel_rfl)) (fun _ _ _ h => h) (Or.inl ⟨by rfl, ?_⟩) ?_ ?_
                rotate_left
                · intro w'
                  go_simp
                  with_reducible rfl
                rotate_left
                · simp only [Act.put, List.setIfInBounds_toArray, List.set_cons_zero, List.set_cons_succ, i64_w, i32_w]
                  rfl
                refine one_ (i := 6) (N := some 40) #[true, true, true, true, true, true, true, true, true, true, true, true, false, false] rfl rfl (one_of HT_.out (by kernel_rfl)) (by decide) (fun K hK => ?_)
                refine goes_ Try.func22 (by kernel_rfl) rfl #[.slice Ao38 t126.length co38, .int .i64 (wrap64 (Go.bits .and .u64 a0_1 4294967295))] (by rfl) rfl rfl (by (try simp only [List.map_toArray, List.map_cons, List.map_nil]); first | done | rfl | (simp only [List.length_drop, List.length_take]; rfl)) ?_
                with_reducible refine (octets_PutU32.calls _ _ t126 (wrap64 (Go.bits .and .u64 a0_1 4294967295)) t129 _ ?side1 ?side2 A14.out).mono ?_
                (case side1 => repeat (first | exact (Kd.R_reads' HO128.out).2.2 | (with_reducible refine Kd.C_alloc ?_ _) | (with_reducible refine Kd.C_drewN ?_ _) | (with_reducible refine Kd.C_drew ?_)))
                (case side2 => exact (Kd.R_reads' HO128.out).2.1)
                rintro e w39 ⟨v130, rfl, ho0, hb⟩
                refine ⟨_, rfl, ?_⟩
                have n0_ := Aside0.mk (Kd.R_elder' (by (with_reducible repeat (first | apply Kd.R_alloc | apply Kd.R_drewN | apply Kd.R_drew)); exact HO110.out) (Kd.R_base ho0) hb)
                have n1_ := Aside0.mk (Kd.R_elder' (by (with_reducible repeat (first | apply Kd.R_alloc | apply Kd.R_drewN | apply Kd.R_drew)); exact HO113.out) (Kd.R_base ho0) hb)
                have n2_ := Aside0.mk (Kd.R_elder' (by (with_reducible repeat (first | apply Kd.R_alloc | apply Kd.R_drewN | apply Kd.R_drew)); exact HO116.out) (Kd.R_base ho0) hb)
                have n3_ := Aside0.mk (Kd.R_elder' (by (with_reducible repeat (first | apply Kd.R_alloc | apply Kd.R_drewN | apply Kd.R_drew)); exact HO122.out) (Kd.R_base ho0) hb)
                have n4_ := Aside0.mk (Kd.R_elder' (by (with_reducible repeat (first | apply Kd.R_alloc | apply Kd.R_drewN | apply Kd.R_drew)); exact HO125.out) (Kd.R_base ho0) hb)
                have n5_ := Aside0.mk (Kd.R_elder' (by (with_reducible repeat (first | apply Kd.R_alloc | apply Kd.R_drewN | apply Kd.R_drew)); exact HO128.out) (Kd.R_base ho0) hb)
                have n6_ := Aside0.mk (Kd.R_lower (Kd.R_new' (Kd.R_new' (Kd.R_new' (Kd.R_new' (Kd.R_new' (Kd.R_new' ho0 (Kd.R_lt (by (with_reducible repeat (first | apply Kd.R_alloc | apply Kd.R_drewN | apply Kd.R_drew)); exact HO110.out))) (Kd.R_lt (by (with_reducible repeat (first | apply Kd.R_alloc | apply Kd.R_drewN | apply Kd.R_drew)); exact HO113.out))) (Kd.R_lt (by (with_reducible repeat (first | apply Kd.R_alloc | apply Kd.R_drewN | apply Kd.R_drew)); exact HO116.out))) (Kd.R_lt (by (with_reducible repeat (first | apply Kd.R_alloc | apply Kd.R_drewN | apply Kd.R_drew)); exact HO122.out))) (Kd.R_lt (by (with_reducible repeat (first | apply Kd.R_alloc | apply Kd.R_drewN | apply Kd.R_drew)); exact HO125.out))) (Kd.R_lt (by (with_reducible repeat (first | apply Kd.R_alloc | apply Kd.R_drewN | apply Kd.R_drew)); exact HO128.out))) (below_size (by repeat (first | (with_reducible first | exact HB.out | apply below_alloc | apply pw_below_drewN | apply below_drew1 | refine below_set ?_ GE107.out) | exact HB.out))))
                have n7_ := Aside0.mk (blk_below (g := gb107) (o := .cells #[.int .u64 a0_0, .int .u64 a0_1, .int .u64 a0_2, .int .u64 a0_3, .int .i64 a0_4, .int .i64 a0_5, .int .i64 a0_6, .int .i64 a0_7, .bool a0_8] 112 (0, 0)) (by (with_reducible repeat (first | refine blk_drewN ?_ _ | refine blk_drew ?_ | refine blk_alloc ?_ _)); exact BK107.out) hb)
                have n8_ := Aside0.mk (below_step (by repeat (first | (with_reducible first | exact HB.out | apply below_alloc | apply pw_below_drewN | apply below_drew1 | refine below_set ?_ GE107.out) | exact HB.out)) hb)
                clear HO110
                clear HO113
                clear HO116
                clear HO122
                clear HO125
                clear HO128
                clear BK107
                clear HB
                have HO110 := n0_
                have HO113 := n1_
                have HO116 := n2_
                have HO122 := n3_
                have HO125 := n4_
                have HO128 := n5_
                have HO131 := n6_
                have BK107 := n7_
                have HB := n8_
                clear n0_ n1_ n2_ n3_ n4_ n5_ n6_ n7_ n8_
                (try clear hb)
                (try clear hb2)
                (try clear hk)
                (try clear hi)
                (try clear ho0)
                obtain ⟨Ao40, co40, eo40⟩ := Kd.R_slice HO131.out
                (first | subst eo40 | (injection eo40 with f1_ f2_ f3_; have f4_ := f1_.symm; have f5_ := f3_.symm; clear f1_ f2_ f3_; subst f4_; subst f5_))
                refine hK.out _ _ ⟨(blk_cell BK107.out 0).trans rfl, (blk_cell BK107.out 1).trans rfl, (blk_cell BK107.out 2).trans rfl, (blk_cell BK107.out 3).trans rfl, (blk_cell BK107.out 4).trans rfl, (blk_cell BK107.out 5).trans rfl, (blk_cell BK107.out 6).trans rfl, (blk_cell BK107.out 7).trans rfl, (blk_cell BK107.out 8).trans rfl⟩ (fun hHeld => ?_)
                clear hK K
                refine norm_ (a' := ?_) ?_ ?_
                rotate_left
                · show Act.put _ (some 40) _ = _
                  simp only [Act.put, List.setIfInBounds_toArray, List.set_cons_zero, List.set_cons_succ, i64_w, i32_w]
                  rfl
                refine one_ (i := 12) (N := some 46) #[true, true, true, true, true, true, true, true, true, true, true, true, true, false] rfl rfl (one_of HT_.out (by kernel_rfl)) (by decide) (fun K hK => ?_)
                refine goes_ Try.func22 (by kernel_rfl) rfl #[.slice Ao40 t129.length co40, .int .i64 (wrap64 (Go.bits .and .u64 a0_3 4294967295))] (by rfl) rfl rfl (by (try simp only [List.map_toArray, List.map_cons, List.map_nil]); first | done | rfl | (simp only [List.length_drop, List.length_take]; rfl)) ?_
                with_reducible refine (octets_PutU32.calls _ _ t129 (wrap64 (Go.bits .and .u64 a0_3 4294967295)) t132 _ ?side1 ?side2 A15.out).mono ?_
                (case side1 => repeat (first | exact (Kd.R_reads' HO131.out).2.2 | (with_reducible refine Kd.C_alloc ?_ _) | (with_reducible refine Kd.C_drewN ?_ _) | (with_reducible refine Kd.C_drew ?_)))
                (case side2 => exact (Kd.R_reads' HO131.out).2.1)
                rintro e w41 ⟨v133, rfl, ho0, hb⟩
                refine ⟨_, rfl, ?_⟩
                have n0_ := Aside0.mk (Kd.R_elder' (by (with_reducible repeat (first | apply Kd.R_alloc | apply Kd.R_drewN | apply Kd.R_drew)); exact HO110.out) (Kd.R_base ho0) hb)
                have n1_ := Aside0.mk (Kd.R_elder' (by (with_reducible repeat (first | apply Kd.R_alloc | apply Kd.R_drewN | apply Kd.R_drew)); exact HO113.out) (Kd.R_base ho0) hb)
                have n2_ := Aside0.mk (Kd.R_elder' (by (with_reducible repeat (first | apply Kd.R_alloc | apply Kd.R_drewN | apply Kd.R_drew)); exact HO116.out) (Kd.R_base ho0) hb)
                have n3_ := Aside0.mk (Kd.R_elder' (by (with_reducible repeat (first | apply Kd.R_alloc | apply Kd.R_drewN | apply Kd.R_drew)); exact HO122.out) (Kd.R_base ho0) hb)
                have n4_ := Aside0.mk (Kd.R_elder' (by (with_reducible repeat (first | apply Kd.R_alloc | apply Kd.R_drewN | apply Kd.R_drew)); exact HO125.out) (Kd.R_base ho0) hb)
                have n5_ := Aside0.mk (Kd.R_elder' (by (with_reducible repeat (first | apply Kd.R_alloc | apply Kd.R_drewN | apply Kd.R_drew)); exact HO128.out) (Kd.R_base ho0) hb)
                have n6_ := Aside0.mk (Kd.R_elder' (by (with_reducible repeat (first | apply Kd.R_alloc | apply Kd.R_drewN | apply Kd.R_drew)); exact HO131.out) (Kd.R_base ho0) hb)
                have n7_ := Aside0.mk (Kd.R_lower (Kd.R_new' (Kd.R_new' (Kd.R_new' (Kd.R_new' (Kd.R_new' (Kd.R_new' (Kd.R_new' ho0 (Kd.R_lt (by (with_reducible repeat (first | apply Kd.R_alloc | apply Kd.R_drewN | apply Kd.R_drew)); exact HO110.out))) (Kd.R_lt (by (with_reducible repeat (first | apply Kd.R_alloc | apply Kd.R_drewN | apply Kd.R_drew)); exact HO113.out))) (Kd.R_lt (by (with_reducible repeat (first | apply Kd.R_alloc | apply Kd.R_drewN | apply Kd.R_drew)); exact HO116.out))) (Kd.R_lt (by (with_reducible repeat (first | apply Kd.R_alloc | apply Kd.R_drewN | apply Kd.R_drew)); exact HO122.out))) (Kd.R_lt (by (with_reducible repeat (first | apply Kd.R_alloc | apply Kd.R_drewN | apply Kd.R_drew)); exact HO125.out))) (Kd.R_lt (by (with_reducible repeat (first | apply Kd.R_alloc | apply Kd.R_drewN | apply Kd.R_drew)); exact HO128.out))) (Kd.R_lt (by (with_reducible repeat (first | apply Kd.R_alloc | apply Kd.R_drewN | apply Kd.R_drew)); exact HO131.out))) (below_size (by repeat (first | (with_reducible first | exact HB.out | apply below_alloc | apply pw_below_drewN | apply below_drew1 | refine below_set ?_ GE107.out) | exact HB.out))))
                have n8_ := Aside0.mk (blk_below (g := gb107) (o := .cells #[.int .u64 a0_0, .int .u64 a0_1, .int .u64 a0_2, .int .u64 a0_3, .int .i64 a0_4, .int .i64 a0_5, .int .i64 a0_6, .int .i64 a0_7, .bool a0_8] 112 (0, 0)) (by (with_reducible repeat (first | refine blk_drewN ?_ _ | refine blk_drew ?_ | refine blk_alloc ?_ _)); exact BK107.out) hb)
                have n9_ := Aside0.mk (below_step (by repeat (first | (with_reducible first | exact HB.out | apply below_alloc | apply pw_below_drewN | apply below_drew1 | refine below_set ?_ GE107.out) | exact HB.out)) hb)
                clear HO110
                clear HO113
                clear HO116
                clear HO122
                clear HO125
                clear HO128
                clear HO131
                clear BK107
                clear HB
                have HO110 := n0_
                have HO113 := n1_
                have HO116 := n2_
                have HO122 := n3_
                have HO125 := n4_
                have HO128 := n5_
                have HO131 := n6_
                have HO134 := n7_
                have BK107 := n8_
                have HB := n9_
                clear n0_ n1_ n2_ n3_ n4_ n5_ n6_ n7_ n8_ n9_
                (try clear hb)
                (try clear hb2)
                (try clear hk)
                (try clear hi)
                (try clear ho0)
                refine hK.out _ _ ⟨(blk_cell BK107.out 0).trans rfl, (blk_cell BK107.out 1).trans rfl, (blk_cell BK107.out 2).trans rfl, (blk_cell BK107.out 3).trans rfl, (blk_cell BK107.out 4).trans rfl, (blk_cell BK107.out 5).trans rfl, (blk_cell BK107.out 6).trans rfl, (blk_cell BK107.out 7).trans rfl, (blk_cell BK107.out 8).trans rfl⟩ (fun hHeld => ?_)
                clear hK K
                refine norm_ (a' := ?_) ?_ ?_
                rotate_left
                · show Act.put _ (some 46) _ = _
                  simp only [Act.put, List.setIfInBounds_toArray, List.set_cons_zero, List.set_cons_succ, i64_w, i32_w]
                  rfl
                refine pure_ (i := 13) (N := some 6) (v := ?_) (a' := ?_) #[true, true, true, true, true, true, true, true, true, true, true, true, true, true] rfl rfl (any_of HT_.out (by kernel_rfl)) (fun _ _ _ h => h) (Or.inl ⟨by rfl, ?_⟩) ?_ ?_
                rotate_left
                · intro w'
                  go_simp
                  with_reducible rfl
                rotate_left
                · simp only [Act.put, List.setIfInBounds_toArray, List.set_cons_zero, List.set_cons_succ, i64_w, i32_w]
                  rfl
                refine done_ (done_of HT_.out (by kernel_rfl)) ?_
                have hcv42 := own_string (P := Try.prog) Try.underlying22 Try.underlying5 Try.underlying9 (Kd.own_of_R HO134.out)
                try go_wp2_with (first | ((with_reducible refine gate_callee (f := 87) rfl ?_); refine goesL_ (some 49) rfl rfl Try.func87 (by kernel_rfl) rfl #[.string (strOfNums t132)] rfl (by (try simp only [List.map_toArray, List.map_cons, List.map_nil]); first | done | rfl | (simp only [List.length_drop, List.length_take]; rfl)) ?_; (with_reducible refine (ipv4_Sum.calls kj4 (strOfNums t132) t135 _ A16.out).mono ?_); rintro e w' ⟨rfl, ⟨nd, rfl⟩⟩; refine ⟨_, rfl, ?_⟩; (try (rw [drewN_self w41]; generalize hq_ : World.drewN w41 _ = w41; have n0_ : Aside0 (Kd.R (Kd.int .u8) 5 w41 w.heap.size (fun k_ => some k_ ≠ (.slice Ao26 t111.length co26 : Value).ownBlock ∧ some k_ ≠ (.slice Ao28 t114.length co28 : Value).ownBlock ∧ some k_ ≠ (.slice Ao34 y120.length co34 : Value).ownBlock ∧ some k_ ≠ (.slice Ao35 y123.length co35 : Value).ownBlock ∧ some k_ ≠ (.slice Ao38 t126.length co38 : Value).ownBlock ∧ some k_ ≠ (.slice Ao40 t129.length co40 : Value).ownBlock ∧ some k_ ≠ (v133 : Value).ownBlock) (.slice Ao24 y108.length co24) y108) := ⟨by rw [← hq_]; exact (by (with_reducible repeat (first | apply Kd.R_alloc | apply Kd.R_drewN | apply Kd.R_drew)); exact Kd.R_mono HO110.out (fun _ hk => by first | exact ⟨hk.1.1.1.1.1, ⟨hk.1.1.1.1.2.1, ⟨hk.1.1.1.1.2.2, ⟨hk.1.1.1.2, ⟨hk.1.1.2, ⟨hk.1.2, hk.2⟩⟩⟩⟩⟩⟩ | exact hk | exact ⟨⟨hk.1, hk.2.1, hk.2.2.1, hk.2.2.2.1, hk.2.2.2.2.1, hk.2.2.2.2.2.1⟩, hk.2.2.2.2.2.2⟩ | (simp only [and_assoc] at hk ⊢; exact hk)))⟩; have n1_ : Aside0 (Kd.R (Kd.int .u8) 5 w41 w.heap.size (fun k_ => some k_ ≠ (.slice Ao24 y108.length co24 : Value).ownBlock ∧ some k_ ≠ (.slice Ao28 t114.length co28 : Value).ownBlock ∧ some k_ ≠ (.slice Ao34 y120.length co34 : Value).ownBlock ∧ some k_ ≠ (.slice Ao35 y123.length co35 : Value).ownBlock ∧ some k_ ≠ (.slice Ao38 t126.length co38 : Value).ownBlock ∧ some k_ ≠ (.slice Ao40 t129.length co40 : Value).ownBlock ∧ some k_ ≠ (v133 : Value).ownBlock) (.slice Ao26 t111.length co26) t111) := ⟨by rw [← hq_]; exact (by (with_reducible repeat (first | apply Kd.R_alloc | apply Kd.R_drewN | apply Kd.R_drew)); exact Kd.R_mono HO113.out (fun _ hk => by first | exact ⟨hk.1.1.1.1.1, ⟨hk.1.1.1.1.2.1, ⟨hk.1.1.1.1.2.2, ⟨hk.1.1.1.2, ⟨hk.1.1.2, ⟨hk.1.2, hk.2⟩⟩⟩⟩⟩⟩ | exact hk | exact ⟨⟨hk.1, hk.2.1, hk.2.2.1, hk.2.2.2.1, hk.2.2.2.2.1, hk.2.2.2.2.2.1⟩, hk.2.2.2.2.2.2⟩ | (simp only [and_assoc] at hk ⊢; exact hk)))⟩; have n2_ : Aside0 (Kd.R (Kd.int .u8) 5 w41 w.heap.size (fun k_ => some k_ ≠ (.slice Ao24 y108.length co24 : Value).ownBlock ∧ some k_ ≠ (.slice Ao26 t111.length co26 : Value).ownBlock ∧ some k_ ≠ (.slice Ao34 y120.length co34 : Value).ownBlock ∧ some k_ ≠ (.slice Ao35 y123.length co35 : Value).ownBlock ∧ some k_ ≠ (.slice Ao38 t126.length co38 : Value).ownBlock ∧ some k_ ≠ (.slice Ao40 t129.length co40 : Value).ownBlock ∧ some k_ ≠ (v133 : Value).ownBlock) (.slice Ao28 t114.length co28) t114) := ⟨by rw [← hq_]; exact (by (with_reducible repeat (first | apply Kd.R_alloc | apply Kd.R_drewN | apply Kd.R_drew)); exact Kd.R_mono HO116.out (fun _ hk => by first | exact ⟨hk.1.1.1.1.1, ⟨hk.1.1.1.1.2.1, ⟨hk.1.1.1.1.2.2, ⟨hk.1.1.1.2, ⟨hk.1.1.2, ⟨hk.1.2, hk.2⟩⟩⟩⟩⟩⟩ | exact hk | exact ⟨⟨hk.1, hk.2.1, hk.2.2.1, hk.2.2.2.1, hk.2.2.2.2.1, hk.2.2.2.2.2.1⟩, hk.2.2.2.2.2.2⟩ | (simp only [and_assoc] at hk ⊢; exact hk)))⟩; have n3_ : Aside0 (Kd.R (Kd.int .u8) 5 w41 w.heap.size (fun k_ => some k_ ≠ (.slice Ao24 y108.length co24 : Value).ownBlock ∧ some k_ ≠ (.slice Ao26 t111.length co26 : Value).ownBlock ∧ some k_ ≠ (.slice Ao28 t114.length co28 : Value).ownBlock ∧ some k_ ≠ (.slice Ao35 y123.length co35 : Value).ownBlock ∧ some k_ ≠ (.slice Ao38 t126.length co38 : Value).ownBlock ∧ some k_ ≠ (.slice Ao40 t129.length co40 : Value).ownBlock ∧ some k_ ≠ (v133 : Value).ownBlock) (.slice Ao34 y120.length co34) y120) := ⟨by rw [← hq_]; exact (by (with_reducible repeat (first | apply Kd.R_alloc | apply Kd.R_drewN | apply Kd.R_drew)); exact Kd.R_mono HO122.out (fun _ hk => by first | exact ⟨hk.1.1.1.1.1, ⟨hk.1.1.1.1.2.1, ⟨hk.1.1.1.1.2.2, ⟨hk.1.1.1.2, ⟨hk.1.1.2, ⟨hk.1.2, hk.2⟩⟩⟩⟩⟩⟩ | exact hk | exact ⟨⟨hk.1, hk.2.1, hk.2.2.1, hk.2.2.2.1, hk.2.2.2.2.1, hk.2.2.2.2.2.1⟩, hk.2.2.2.2.2.2⟩ | (simp only [and_assoc] at hk ⊢; exact hk)))⟩; have n4_ : Aside0 (Kd.R (Kd.int .u8) 5 w41 w.heap.size (fun k_ => some k_ ≠ (.slice Ao24 y108.length co24 : Value).ownBlock ∧ some k_ ≠ (.slice Ao26 t111.length co26 : Value).ownBlock ∧ some k_ ≠ (.slice Ao28 t114.length co28 : Value).ownBlock ∧ some k_ ≠ (.slice Ao34 y120.length co34 : Value).ownBlock ∧ some k_ ≠ (.slice Ao38 t126.length co38 : Value).ownBlock ∧ some k_ ≠ (.slice Ao40 t129.length co40 : Value).ownBlock ∧ some k_ ≠ (v133 : Value).ownBlock) (.slice Ao35 y123.length co35) y123) := ⟨by rw [← hq_]; exact (by (with_reducible repeat (first | apply Kd.R_alloc | apply Kd.R_drewN | apply Kd.R_drew)); exact Kd.R_mono HO125.out (fun _ hk => by first | exact ⟨hk.1.1.1.1, ⟨hk.1.1.1.2.1, ⟨hk.1.1.1.2.2.1, ⟨hk.1.1.1.2.2.2, ⟨hk.1.1.2, ⟨hk.1.2, hk.2⟩⟩⟩⟩⟩⟩ | exact hk | exact ⟨⟨hk.1, hk.2.1, hk.2.2.1, hk.2.2.2.1, hk.2.2.2.2.1, hk.2.2.2.2.2.1⟩, hk.2.2.2.2.2.2⟩ | (simp only [and_assoc] at hk ⊢; exact hk)))⟩; have n5_ : Aside0 (Kd.R (Kd.int .u8) 5 w41 w.heap.size (fun k_ => some k_ ≠ (.slice Ao24 y108.length co24 : Value).ownBlock ∧ some k_ ≠ (.slice Ao26 t111.length co26 : Value).ownBlock ∧ some k_ ≠ (.slice Ao28 t114.length co28 : Value).ownBlock ∧ some k_ ≠ (.slice Ao34 y120.length co34 : Value).ownBlock ∧ some k_ ≠ (.slice Ao35 y123.length co35 : Value).ownBlock ∧ some k_ ≠ (.slice Ao40 t129.length co40 : Value).ownBlock ∧ some k_ ≠ (v133 : Value).ownBlock) (.slice Ao38 t126.length co38) t126) := ⟨by rw [← hq_]; exact (by (with_reducible repeat (first | apply Kd.R_alloc | apply Kd.R_drewN | apply Kd.R_drew)); exact Kd.R_mono HO128.out (fun _ hk => by first | exact ⟨hk.1.1.1.1.1.1.2, ⟨hk.1.1.1.1.1.2, ⟨hk.1.1.1.1.2, ⟨hk.1.1.1.2, ⟨hk.1.1.2, ⟨hk.1.2, hk.2⟩⟩⟩⟩⟩⟩ | exact hk | exact ⟨⟨hk.1, hk.2.1, hk.2.2.1, hk.2.2.2.1, hk.2.2.2.2.1, hk.2.2.2.2.2.1⟩, hk.2.2.2.2.2.2⟩ | (simp only [and_assoc] at hk ⊢; exact hk)))⟩; have n6_ : Aside0 (Kd.R (Kd.int .u8) 5 w41 w.heap.size (fun k_ => some k_ ≠ (.slice Ao24 y108.length co24 : Value).ownBlock ∧ some k_ ≠ (.slice Ao26 t111.length co26 : Value).ownBlock ∧ some k_ ≠ (.slice Ao28 t114.length co28 : Value).ownBlock ∧ some k_ ≠ (.slice Ao34 y120.length co34 : Value).ownBlock ∧ some k_ ≠ (.slice Ao35 y123.length co35 : Value).ownBlock ∧ some k_ ≠ (.slice Ao38 t126.length co38 : Value).ownBlock ∧ some k_ ≠ (v133 : Value).ownBlock) (.slice Ao40 t129.length co40) t129) := ⟨by rw [← hq_]; exact (by (with_reducible repeat (first | apply Kd.R_alloc | apply Kd.R_drewN | apply Kd.R_drew)); exact Kd.R_mono HO131.out (fun _ hk => by first | exact ⟨hk.1.1.1.1.1.1.2, ⟨hk.1.1.1.1.1.2, ⟨hk.1.1.1.1.2, ⟨hk.1.1.1.2, ⟨hk.1.1.2, ⟨hk.1.2, hk.2⟩⟩⟩⟩⟩⟩ | exact hk | exact ⟨⟨hk.1, hk.2.1, hk.2.2.1, hk.2.2.2.1, hk.2.2.2.2.1, hk.2.2.2.2.2.1⟩, hk.2.2.2.2.2.2⟩ | (simp only [and_assoc] at hk ⊢; exact hk)))⟩; have n7_ : Aside0 (Kd.R (Kd.int .u8) 5 w41 w.heap.size (fun k_ => some k_ ≠ (.slice Ao24 y108.length co24 : Value).ownBlock ∧ some k_ ≠ (.slice Ao26 t111.length co26 : Value).ownBlock ∧ some k_ ≠ (.slice Ao28 t114.length co28 : Value).ownBlock ∧ some k_ ≠ (.slice Ao34 y120.length co34 : Value).ownBlock ∧ some k_ ≠ (.slice Ao35 y123.length co35 : Value).ownBlock ∧ some k_ ≠ (.slice Ao38 t126.length co38 : Value).ownBlock ∧ some k_ ≠ (.slice Ao40 t129.length co40 : Value).ownBlock) v133 t132) := ⟨by rw [← hq_]; exact (by (with_reducible repeat (first | apply Kd.R_alloc | apply Kd.R_drewN | apply Kd.R_drew)); exact Kd.R_mono HO134.out (fun _ hk => by first | exact ⟨hk.1.1.1.1.1.1.2, ⟨hk.1.1.1.1.1.2, ⟨hk.1.1.1.1.2, ⟨hk.1.1.1.2, ⟨hk.1.1.2, ⟨hk.1.2, hk.2⟩⟩⟩⟩⟩⟩ | exact hk | exact ⟨⟨hk.1, hk.2.1, hk.2.2.1, hk.2.2.2.1, hk.2.2.2.2.1, hk.2.2.2.2.2.1⟩, hk.2.2.2.2.2.2⟩ | (simp only [and_assoc] at hk ⊢; exact hk)))⟩; have n8_ : Aside0 (w41.heap[gb107]? = some (.cells #[.int .u64 a0_0, .int .u64 a0_1, .int .u64 a0_2, .int .u64 a0_3, .int .i64 a0_4, .int .i64 a0_5, .int .i64 a0_6, .int .i64 a0_7, .bool a0_8] 112 (0, 0))) := ⟨by rw [← hq_]; exact (by (with_reducible repeat (first | refine blk_drewN ?_ _ | refine blk_drew ?_ | refine blk_alloc ?_ _)); exact BK107.out)⟩; have n9_ : Aside0 (Below w.heap.size w w41) := ⟨by rw [← hq_]; exact (by repeat (first | (with_reducible first | exact HB.out | apply below_alloc | apply pw_below_drewN | apply below_drew1 | refine below_set ?_ GE107.out) | exact HB.out))⟩; clear HO110 HO113 HO116 HO122 HO125 HO128 HO131 HO134 BK107 HB hq_; have HO110 := n0_; have HO113 := n1_; have HO116 := n2_; have HO122 := n3_; have HO125 := n4_; have HO128 := n5_; have HO131 := n6_; have HO134 := n7_; have BK107 := n8_; have HB := n9_; clear n0_ n1_ n2_ n3_ n4_ n5_ n6_ n7_ n8_ n9_)); have p18 : 0 ≤ (10 : Int) := (by omega); have q18 : (10 : Int) < ((t132.length : Int) : Int) := of_decide_eq_true (by first | (with_reducible assumption) | assumption); have qi18 : (10 < t132.length) = True := eq_true (by omega); obtain ⟨go18, co18, eo18, gb18, gl18, cl18, HG18⟩ := Kd.R_form HO134.out (by omega); (first | cases eo18 | (injection eo18 with ea_ en_ ec_; (first | subst ea_ | (injection ea_ with ea_; subst ea_)); subst ec_; clear en_)); have GB18 := Aside0.mk gb18; have GG18 := Aside0.mk HG18; clear gb18 gl18 HG18; obtain ⟨hx18_0, hf18_0⟩ := Kd.R_celln 0 HO134.out (10 : Int) p18 q18; (try rw [show ((10 : Int)).toNat = 10 from rfl] at hx18_0); (try simp only [Nat.reduceMul, Nat.zero_mul, Nat.zero_add, Nat.reduceAdd] at hx18_0); (try rw [show ((10 : Int)).toNat = 10 from rfl] at hf18_0); (try simp only [Nat.reduceMul, Nat.zero_mul, Nat.zero_add, Nat.reduceAdd] at hf18_0); replace p18 := eq_true p18; replace q18 := eq_true q18; have n_ := Aside0.mk (Kd.R_mono (ok' := (fun k_ => some k_ ≠ (.slice Ao24 y108.length co24 : Value).ownBlock ∧ some k_ ≠ (.slice Ao26 t111.length co26 : Value).ownBlock ∧ some k_ ≠ (.slice Ao28 t114.length co28 : Value).ownBlock ∧ some k_ ≠ (.slice Ao34 y120.length co34 : Value).ownBlock ∧ some k_ ≠ (.slice Ao35 y123.length co35 : Value).ownBlock ∧ some k_ ≠ (.slice Ao38 t126.length co38 : Value).ownBlock ∧ some k_ ≠ (.slice Ao40 t129.length co40 : Value).ownBlock)) HO134.out (fun k_ hk => by first | exact ⟨hk.1.1.1.1.1.1.2, ⟨hk.1.1.1.1.1.2, ⟨hk.1.1.1.1.2, ⟨hk.1.1.1.2, ⟨hk.1.1.2, ⟨hk.1.2, hk.2⟩⟩⟩⟩⟩⟩ | exact hk | exact ⟨⟨hk.1, hk.2.1, hk.2.2.1, hk.2.2.2.1, hk.2.2.2.2.1, hk.2.2.2.2.2.1⟩, hk.2.2.2.2.2.2⟩ | (simp only [and_assoc] at hk ⊢; exact hk))); clear HO134; have HO134 := n_; clear n_; obtain ⟨hy43_, hz43_⟩ := Kd.R_celln 0 HO134.out (10 : Int) (by omega) (of_decide_eq_true (by first | (with_reducible assumption) | assumption)); (try simp only [Int.reduceToNat, Int.toNat_zero, Int.toNat_ofNat, Nat.reduceMul, Nat.zero_mul, Nat.zero_add] at hy43_ hz43_); (try rw [show ((10 : Int)).toNat = 10 from rfl] at hy43_); (try rw [show ((10 : Int)).toNat = 10 from rfl] at hz43_); have HP43 := Kd.R_putg HO134.out (10 : Int) ((t135 / 256) % 256)) | ((with_reducible refine gate_store (t := 5) (p := 57) rfl ?_); refine store_event (t := 5) (p := 57) (v := ?vo_w44) (w1 := (w41.setCell ⟨go18, (10 : Int).toNat, none⟩ (.int .u8 ((t135 / 256) % 256)))) ?hg ?ho ?hn ?hr ?_; (case ho => rfl); (case hg => rfl); (case hn => rfl); (case hr => first | (go_simp; done) | (go_simp; rfl)); intro w44 hw; have hg : w41.grownBy w44 (some go18) := (by rw [hw]; exact HP43.2); have hp_ : Kd.R (Kd.int .u8) 5 w44 w.heap.size (fun k_ => some k_ ≠ (.slice Ao24 y108.length co24 : Value).ownBlock ∧ some k_ ≠ (.slice Ao26 t111.length co26 : Value).ownBlock ∧ some k_ ≠ (.slice Ao28 t114.length co28 : Value).ownBlock ∧ some k_ ≠ (.slice Ao34 y120.length co34 : Value).ownBlock ∧ some k_ ≠ (.slice Ao35 y123.length co35 : Value).ownBlock ∧ some k_ ≠ (.slice Ao38 t126.length co38 : Value).ownBlock ∧ some k_ ≠ (.slice Ao40 t129.length co40 : Value).ownBlock) (.slice (some ⟨go18, 0, none⟩) t132.length co18) y136 := (by rw [hw, Ny136.out]; exact HP43.1); clear HP43; have n0_ := Aside0.mk (blk_grown (g := gb107) (o := .cells #[.int .u64 a0_0, .int .u64 a0_1, .int .u64 a0_2, .int .u64 a0_3, .int .i64 a0_4, .int .i64 a0_5, .int .i64 a0_6, .int .i64 a0_7, .bool a0_8] 112 (0, 0)) (by (with_reducible repeat (first | refine blk_drewN ?_ _ | refine blk_drew ?_ | refine blk_alloc ?_ _)); exact BK107.out) hg (Kd.R_ne HO134.out BK107.out (by decide))); have n1_ := Aside0.mk (Kd.R_after (v := (.slice (some ⟨go18, 0, none⟩) t132.length co18)) (v1 := (.slice (some ⟨go18, 0, none⟩) t132.length co18)) (ok := (fun k_ => some k_ ≠ (.slice Ao26 t111.length co26 : Value).ownBlock ∧ some k_ ≠ (.slice Ao28 t114.length co28 : Value).ownBlock ∧ some k_ ≠ (.slice Ao34 y120.length co34 : Value).ownBlock ∧ some k_ ≠ (.slice Ao35 y123.length co35 : Value).ownBlock ∧ some k_ ≠ (.slice Ao38 t126.length co38 : Value).ownBlock ∧ some k_ ≠ (.slice Ao40 t129.length co40 : Value).ownBlock)) (by (with_reducible repeat (first | apply Kd.R_alloc | apply Kd.R_drewN | apply Kd.R_drew)); exact Kd.R_mono HO110.out (fun _ hk => by first | exact ⟨⟨hk.1.1.1.1.1, ⟨hk.1.1.1.1.2.1, ⟨hk.1.1.1.1.2.2, ⟨hk.1.1.1.2, ⟨hk.1.1.2, hk.1.2⟩⟩⟩⟩⟩, hk.2⟩ | exact hk | exact ⟨⟨hk.1, hk.2.1, hk.2.2.1, hk.2.2.2.1, hk.2.2.2.2.1, hk.2.2.2.2.2.1⟩, hk.2.2.2.2.2.2⟩ | (simp only [and_assoc] at hk ⊢; exact hk))) hg (.inl rfl)); have n2_ := Aside0.mk (Kd.R_after (v := (.slice (some ⟨go18, 0, none⟩) t132.length co18)) (v1 := (.slice (some ⟨go18, 0, none⟩) t132.length co18)) (ok := (fun k_ => some k_ ≠ (.slice Ao24 y108.length co24 : Value).ownBlock ∧ some k_ ≠ (.slice Ao28 t114.length co28 : Value).ownBlock ∧ some k_ ≠ (.slice Ao34 y120.length co34 : Value).ownBlock ∧ some k_ ≠ (.slice Ao35 y123.length co35 : Value).ownBlock ∧ some k_ ≠ (.slice Ao38 t126.length co38 : Value).ownBlock ∧ some k_ ≠ (.slice Ao40 t129.length co40 : Value).ownBlock)) (by (with_reducible repeat (first | apply Kd.R_alloc | apply Kd.R_drewN | apply Kd.R_drew)); exact Kd.R_mono HO113.out (fun _ hk => by first | exact ⟨⟨hk.1.1.1.1.1, ⟨hk.1.1.1.1.2.1, ⟨hk.1.1.1.1.2.2, ⟨hk.1.1.1.2, ⟨hk.1.1.2, hk.1.2⟩⟩⟩⟩⟩, hk.2⟩ | exact hk | exact ⟨⟨hk.1, hk.2.1, hk.2.2.1, hk.2.2.2.1, hk.2.2.2.2.1, hk.2.2.2.2.2.1⟩, hk.2.2.2.2.2.2⟩ | (simp only [and_assoc] at hk ⊢; exact hk))) hg (.inl rfl)); have n3_ := Aside0.mk (Kd.R_after (v := (.slice (some ⟨go18, 0, none⟩) t132.length co18)) (v1 := (.slice (some ⟨go18, 0, none⟩) t132.length co18)) (ok := (fun k_ => some k_ ≠ (.slice Ao24 y108.length co24 : Value).ownBlock ∧ some k_ ≠ (.slice Ao26 t111.length co26 : Value).ownBlock ∧ some k_ ≠ (.slice Ao34 y120.length co34 : Value).ownBlock ∧ some k_ ≠ (.slice Ao35 y123.length co35 : Value).ownBlock ∧ some k_ ≠ (.slice Ao38 t126.length co38 : Value).ownBlock ∧ some k_ ≠ (.slice Ao40 t129.length co40 : Value).ownBlock)) (by (with_reducible repeat (first | apply Kd.R_alloc | apply Kd.R_drewN | apply Kd.R_drew)); exact Kd.R_mono HO116.out (fun _ hk => by first | exact ⟨⟨hk.1.1.1.1.1, ⟨hk.1.1.1.1.2.1, ⟨hk.1.1.1.1.2.2, ⟨hk.1.1.1.2, ⟨hk.1.1.2, hk.1.2⟩⟩⟩⟩⟩, hk.2⟩ | exact hk | exact ⟨⟨hk.1, hk.2.1, hk.2.2.1, hk.2.2.2.1, hk.2.2.2.2.1, hk.2.2.2.2.2.1⟩, hk.2.2.2.2.2.2⟩ | (simp only [and_assoc] at hk ⊢; exact hk))) hg (.inl rfl)); have n4_ := Aside0.mk (Kd.R_after (v := (.slice (some ⟨go18, 0, none⟩) t132.length co18)) (v1 := (.slice (some ⟨go18, 0, none⟩) t132.length co18)) (ok := (fun k_ => some k_ ≠ (.slice Ao24 y108.length co24 : Value).ownBlock ∧ some k_ ≠ (.slice Ao26 t111.length co26 : Value).ownBlock ∧ some k_ ≠ (.slice Ao28 t114.length co28 : Value).ownBlock ∧ some k_ ≠ (.slice Ao35 y123.length co35 : Value).ownBlock ∧ some k_ ≠ (.slice Ao38 t126.length co38 : Value).ownBlock ∧ some k_ ≠ (.slice Ao40 t129.length co40 : Value).ownBlock)) (by (with_reducible repeat (first | apply Kd.R_alloc | apply Kd.R_drewN | apply Kd.R_drew)); exact Kd.R_mono HO122.out (fun _ hk => by first | exact ⟨⟨hk.1.1.1.1.1, ⟨hk.1.1.1.1.2.1, ⟨hk.1.1.1.1.2.2, ⟨hk.1.1.1.2, ⟨hk.1.1.2, hk.1.2⟩⟩⟩⟩⟩, hk.2⟩ | exact hk | exact ⟨⟨hk.1, hk.2.1, hk.2.2.1, hk.2.2.2.1, hk.2.2.2.2.1, hk.2.2.2.2.2.1⟩, hk.2.2.2.2.2.2⟩ | (simp only [and_assoc] at hk ⊢; exact hk))) hg (.inl rfl)); have n5_ := Aside0.mk (Kd.R_after (v := (.slice (some ⟨go18, 0, none⟩) t132.length co18)) (v1 := (.slice (some ⟨go18, 0, none⟩) t132.length co18)) (ok := (fun k_ => some k_ ≠ (.slice Ao24 y108.length co24 : Value).ownBlock ∧ some k_ ≠ (.slice Ao26 t111.length co26 : Value).ownBlock ∧ some k_ ≠ (.slice Ao28 t114.length co28 : Value).ownBlock ∧ some k_ ≠ (.slice Ao34 y120.length co34 : Value).ownBlock ∧ some k_ ≠ (.slice Ao38 t126.length co38 : Value).ownBlock ∧ some k_ ≠ (.slice Ao40 t129.length co40 : Value).ownBlock)) (by (with_reducible repeat (first | apply Kd.R_alloc | apply Kd.R_drewN | apply Kd.R_drew)); exact Kd.R_mono HO125.out (fun _ hk => by first | exact ⟨⟨hk.1.1.1.1, ⟨hk.1.1.1.2.1, ⟨hk.1.1.1.2.2.1, ⟨hk.1.1.1.2.2.2, ⟨hk.1.1.2, hk.1.2⟩⟩⟩⟩⟩, hk.2⟩ | exact hk | exact ⟨⟨hk.1, hk.2.1, hk.2.2.1, hk.2.2.2.1, hk.2.2.2.2.1, hk.2.2.2.2.2.1⟩, hk.2.2.2.2.2.2⟩ | (simp only [and_assoc] at hk ⊢; exact hk))) hg (.inl rfl)); have n6_ := Aside0.mk (Kd.R_after (v := (.slice (some ⟨go18, 0, none⟩) t132.length co18)) (v1 := (.slice (some ⟨go18, 0, none⟩) t132.length co18)) (ok := (fun k_ => some k_ ≠ (.slice Ao24 y108.length co24 : Value).ownBlock ∧ some k_ ≠ (.slice Ao26 t111.length co26 : Value).ownBlock ∧ some k_ ≠ (.slice Ao28 t114.length co28 : Value).ownBlock ∧ some k_ ≠ (.slice Ao34 y120.length co34 : Value).ownBlock ∧ some k_ ≠ (.slice Ao35 y123.length co35 : Value).ownBlock ∧ some k_ ≠ (.slice Ao40 t129.length co40 : Value).ownBlock)) (by (with_reducible repeat (first | apply Kd.R_alloc | apply Kd.R_drewN | apply Kd.R_drew)); exact Kd.R_mono HO128.out (fun _ hk => by first | exact ⟨⟨hk.1.1.1.1.1.1.2, ⟨hk.1.1.1.1.1.2, ⟨hk.1.1.1.1.2, ⟨hk.1.1.1.2, ⟨hk.1.1.2, hk.1.2⟩⟩⟩⟩⟩, hk.2⟩ | exact hk | exact ⟨⟨hk.1, hk.2.1, hk.2.2.1, hk.2.2.2.1, hk.2.2.2.2.1, hk.2.2.2.2.2.1⟩, hk.2.2.2.2.2.2⟩ | (simp only [and_assoc] at hk ⊢; exact hk))) hg (.inl rfl)); have n7_ := Aside0.mk (Kd.R_after (v := (.slice (some ⟨go18, 0, none⟩) t132.length co18)) (v1 := (.slice (some ⟨go18, 0, none⟩) t132.length co18)) (ok := (fun k_ => some k_ ≠ (.slice Ao24 y108.length co24 : Value).ownBlock ∧ some k_ ≠ (.slice Ao26 t111.length co26 : Value).ownBlock ∧ some k_ ≠ (.slice Ao28 t114.length co28 : Value).ownBlock ∧ some k_ ≠ (.slice Ao34 y120.length co34 : Value).ownBlock ∧ some k_ ≠ (.slice Ao35 y123.length co35 : Value).ownBlock ∧ some k_ ≠ (.slice Ao38 t126.length co38 : Value).ownBlock)) (by (with_reducible repeat (first | apply Kd.R_alloc | apply Kd.R_drewN | apply Kd.R_drew)); exact Kd.R_mono HO131.out (fun _ hk => by first | exact ⟨⟨hk.1.1.1.1.1.1.2, ⟨hk.1.1.1.1.1.2, ⟨hk.1.1.1.1.2, ⟨hk.1.1.1.2, ⟨hk.1.1.2, hk.1.2⟩⟩⟩⟩⟩, hk.2⟩ | exact hk | exact ⟨⟨hk.1, hk.2.1, hk.2.2.1, hk.2.2.2.1, hk.2.2.2.2.1, hk.2.2.2.2.2.1⟩, hk.2.2.2.2.2.2⟩ | (simp only [and_assoc] at hk ⊢; exact hk))) hg (.inl rfl)); have n8_ := Aside0.mk (hp_); have n9_ := Aside0.mk ((by rw [hw]; exact below_set (HB.out) GB18.out : Below w.heap.size w w44)); clear BK107; clear HO110; clear HO113; clear HO116; clear HO122; clear HO125; clear HO128; clear HO131; clear HO134; clear HB; have BK107 := n0_; have HO110 := n1_; have HO113 := n2_; have HO116 := n3_; have HO122 := n4_; have HO125 := n5_; have HO128 := n6_; have HO131 := n7_; have HO134 := n8_; have HB := n9_; clear n0_ n1_ n2_ n3_ n4_ n5_ n6_ n7_ n8_ n9_; clear hg hw hp_; have p20 : 0 ≤ (11 : Int) := (by omega); have q20 : (11 : Int) < ((t132.length : Int) : Int) := of_decide_eq_true (by first | (with_reducible assumption) | assumption); have qi20 : (11 < t132.length) = True := eq_true (by omega); obtain ⟨hx20_0, hf20_0⟩ := Kd.R_celln 0 HO134.out (11 : Int) p20 q20; (try rw [show ((11 : Int)).toNat = 11 from rfl] at hx20_0); (try simp only [Nat.reduceMul, Nat.zero_mul, Nat.zero_add, Nat.reduceAdd] at hx20_0); (try rw [show ((11 : Int)).toNat = 11 from rfl] at hf20_0); (try simp only [Nat.reduceMul, Nat.zero_mul, Nat.zero_add, Nat.reduceAdd] at hf20_0); replace p20 := eq_true p20; replace q20 := eq_true q20; obtain ⟨hy45_, hz45_⟩ := Kd.R_celln 0 HO134.out (11 : Int) (by omega) (of_decide_eq_true (by first | (with_reducible assumption) | assumption)); (try simp only [Int.reduceToNat, Int.toNat_zero, Int.toNat_ofNat, Nat.reduceMul, Nat.zero_mul, Nat.zero_add] at hy45_ hz45_); (try rw [show ((11 : Int)).toNat = 11 from rfl] at hy45_); (try rw [show ((11 : Int)).toNat = 11 from rfl] at hz45_); have HP45 := Kd.R_putg HO134.out (11 : Int) ((t135) % 256)) | ((with_reducible refine gate_store (t := 5) (p := 58) rfl ?_); refine store_event (t := 5) (p := 58) (v := ?vo_w46) (w1 := (w44.setCell ⟨go18, (11 : Int).toNat, none⟩ (.int .u8 ((t135) % 256)))) ?hg ?ho ?hn ?hr ?_; (case ho => rfl); (case hg => rfl); (case hn => rfl); (case hr => first | (go_simp; done) | (go_simp; rfl)); intro w46 hw; have hg : w44.grownBy w46 (some go18) := (by rw [hw]; exact HP45.2); have hp_ : Kd.R (Kd.int .u8) 5 w46 w.heap.size (fun k_ => some k_ ≠ (.slice Ao24 y108.length co24 : Value).ownBlock ∧ some k_ ≠ (.slice Ao26 t111.length co26 : Value).ownBlock ∧ some k_ ≠ (.slice Ao28 t114.length co28 : Value).ownBlock ∧ some k_ ≠ (.slice Ao34 y120.length co34 : Value).ownBlock ∧ some k_ ≠ (.slice Ao35 y123.length co35 : Value).ownBlock ∧ some k_ ≠ (.slice Ao38 t126.length co38 : Value).ownBlock ∧ some k_ ≠ (.slice Ao40 t129.length co40 : Value).ownBlock) (.slice (some ⟨go18, 0, none⟩) t132.length co18) y137 := (by rw [hw, Ny137.out]; exact HP45.1); clear HP45; have n0_ := Aside0.mk (blk_grown (g := gb107) (o := .cells #[.int .u64 a0_0, .int .u64 a0_1, .int .u64 a0_2, .int .u64 a0_3, .int .i64 a0_4, .int .i64 a0_5, .int .i64 a0_6, .int .i64 a0_7, .bool a0_8] 112 (0, 0)) (by (with_reducible repeat (first | refine blk_drewN ?_ _ | refine blk_drew ?_ | refine blk_alloc ?_ _)); exact BK107.out) hg (Kd.R_ne HO134.out BK107.out (by decide))); have n1_ := Aside0.mk (Kd.R_after (v := (.slice (some ⟨go18, 0, none⟩) t132.length co18)) (v1 := (.slice (some ⟨go18, 0, none⟩) t132.length co18)) (ok := (fun k_ => some k_ ≠ (.slice Ao26 t111.length co26 : Value).ownBlock ∧ some k_ ≠ (.slice Ao28 t114.length co28 : Value).ownBlock ∧ some k_ ≠ (.slice Ao34 y120.length co34 : Value).ownBlock ∧ some k_ ≠ (.slice Ao35 y123.length co35 : Value).ownBlock ∧ some k_ ≠ (.slice Ao38 t126.length co38 : Value).ownBlock ∧ some k_ ≠ (.slice Ao40 t129.length co40 : Value).ownBlock)) (by (with_reducible repeat (first | apply Kd.R_alloc | apply Kd.R_drewN | apply Kd.R_drew)); exact HO110.out) hg (.inl rfl)); have n2_ := Aside0.mk (Kd.R_after (v := (.slice (some ⟨go18, 0, none⟩) t132.length co18)) (v1 := (.slice (some ⟨go18, 0, none⟩) t132.length co18)) (ok := (fun k_ => some k_ ≠ (.slice Ao24 y108.length co24 : Value).ownBlock ∧ some k_ ≠ (.slice Ao28 t114.length co28 : Value).ownBlock ∧ some k_ ≠ (.slice Ao34 y120.length co34 : Value).ownBlock ∧ some k_ ≠ (.slice Ao35 y123.length co35 : Value).ownBlock ∧ some k_ ≠ (.slice Ao38 t126.length co38 : Value).ownBlock ∧ some k_ ≠ (.slice Ao40 t129.length co40 : Value).ownBlock)) (by (with_reducible repeat (first | apply Kd.R_alloc | apply Kd.R_drewN | apply Kd.R_drew)); exact HO113.out) hg (.inl rfl)); have n3_ := Aside0.mk (Kd.R_after (v := (.slice (some ⟨go18, 0, none⟩) t132.length co18)) (v1 := (.slice (some ⟨go18, 0, none⟩) t132.length co18)) (ok := (fun k_ => some k_ ≠ (.slice Ao24 y108.length co24 : Value).ownBlock ∧ some k_ ≠ (.slice Ao26 t111.length co26 : Value).ownBlock ∧ some k_ ≠ (.slice Ao34 y120.length co34 : Value).ownBlock ∧ some k_ ≠ (.slice Ao35 y123.length co35 : Value).ownBlock ∧ some k_ ≠ (.slice Ao38 t126.length co38 : Value).ownBlock ∧ some k_ ≠ (.slice Ao40 t129.length co40 : Value).ownBlock)) (by (with_reducible repeat (first | apply Kd.R_alloc | apply Kd.R_drewN | apply Kd.R_drew)); exact HO116.out) hg (.inl rfl)); have n4_ := Aside0.mk (Kd.R_after (v := (.slice (some ⟨go18, 0, none⟩) t132.length co18)) (v1 := (.slice (some ⟨go18, 0, none⟩) t132.length co18)) (ok := (fun k_ => some k_ ≠ (.slice Ao24 y108.length co24 : Value).ownBlock ∧ some k_ ≠ (.slice Ao26 t111.length co26 : Value).ownBlock ∧ some k_ ≠ (.slice Ao28 t114.length co28 : Value).ownBlock ∧ some k_ ≠ (.slice Ao35 y123.length co35 : Value).ownBlock ∧ some k_ ≠ (.slice Ao38 t126.length co38 : Value).ownBlock ∧ some k_ ≠ (.slice Ao40 t129.length co40 : Value).ownBlock)) (by (with_reducible repeat (first | apply Kd.R_alloc | apply Kd.R_drewN | apply Kd.R_drew)); exact HO122.out) hg (.inl rfl)); have n5_ := Aside0.mk (Kd.R_after (v := (.slice (some ⟨go18, 0, none⟩) t132.length co18)) (v1 := (.slice (some ⟨go18, 0, none⟩) t132.length co18)) (ok := (fun k_ => some k_ ≠ (.slice Ao24 y108.length co24 : Value).ownBlock ∧ some k_ ≠ (.slice Ao26 t111.length co26 : Value).ownBlock ∧ some k_ ≠ (.slice Ao28 t114.length co28 : Value).ownBlock ∧ some k_ ≠ (.slice Ao34 y120.length co34 : Value).ownBlock ∧ some k_ ≠ (.slice Ao38 t126.length co38 : Value).ownBlock ∧ some k_ ≠ (.slice Ao40 t129.length co40 : Value).ownBlock)) (by (with_reducible repeat (first | apply Kd.R_alloc | apply Kd.R_drewN | apply Kd.R_drew)); exact HO125.out) hg (.inl rfl)); have n6_ := Aside0.mk (Kd.R_after (v := (.slice (some ⟨go18, 0, none⟩) t132.length co18)) (v1 := (.slice (some ⟨go18, 0, none⟩) t132.length co18)) (ok := (fun k_ => some k_ ≠ (.slice Ao24 y108.length co24 : Value).ownBlock ∧ some k_ ≠ (.slice Ao26 t111.length co26 : Value).ownBlock ∧ some k_ ≠ (.slice Ao28 t114.length co28 : Value).ownBlock ∧ some k_ ≠ (.slice Ao34 y120.length co34 : Value).ownBlock ∧ some k_ ≠ (.slice Ao35 y123.length co35 : Value).ownBlock ∧ some k_ ≠ (.slice Ao40 t129.length co40 : Value).ownBlock)) (by (with_reducible repeat (first | apply Kd.R_alloc | apply Kd.R_drewN | apply Kd.R_drew)); exact HO128.out) hg (.inl rfl)); have n7_ := Aside0.mk (Kd.R_after (v := (.slice (some ⟨go18, 0, none⟩) t132.length co18)) (v1 := (.slice (some ⟨go18, 0, none⟩) t132.length co18)) (ok := (fun k_ => some k_ ≠ (.slice Ao24 y108.length co24 : Value).ownBlock ∧ some k_ ≠ (.slice Ao26 t111.length co26 : Value).ownBlock ∧ some k_ ≠ (.slice Ao28 t114.length co28 : Value).ownBlock ∧ some k_ ≠ (.slice Ao34 y120.length co34 : Value).ownBlock ∧ some k_ ≠ (.slice Ao35 y123.length co35 : Value).ownBlock ∧ some k_ ≠ (.slice Ao38 t126.length co38 : Value).ownBlock)) (by (with_reducible repeat (first | apply Kd.R_alloc | apply Kd.R_drewN | apply Kd.R_drew)); exact HO131.out) hg (.inl rfl)); have n8_ := Aside0.mk (hp_); have n9_ := Aside0.mk ((by rw [hw]; exact below_set (HB.out) GB18.out : Below w.heap.size w w46)); clear BK107; clear HO110; clear HO113; clear HO116; clear HO122; clear HO125; clear HO128; clear HO131; clear HO134; clear HB; have BK107 := n0_; have HO110 := n1_; have HO113 := n2_; have HO116 := n3_; have HO122 := n4_; have HO125 := n5_; have HO128 := n6_; have HO131 := n7_; have HO134 := n8_; have HB := n9_; clear n0_ n1_ n2_ n3_ n4_ n5_ n6_ n7_ n8_ n9_; clear hg hw hp_; have hcv47 := own_string (P := Try.prog) Try.underlying22 Try.underlying5 Try.underlying9 (Kd.own_of_R HO134.out)))
                go_ret
                exact ⟨by first | rfl | (simp [errW_none, errW_some] <;> rfl) | (simp [*, errW_none, errW_some] <;> rfl), by repeat (first | (with_reducible first | exact HB.out | apply below_alloc | apply pw_below_drewN | apply below_drew1 | refine below_set ?_ GE107.out) | exact HB.out)⟩
              · rw [if_neg c21] at H
                exact absurd H (by simp)
            · rw [if_neg c19] at H
              exact absurd H (by simp)
          · rw [if_neg c17] at H
            exact absurd H (by simp)
        · rw [if_neg c12] at H
          exact absurd H (by simp)

/-! ### flashlocklaw11_lives: function 84 -/
def flashlocklaw11_lives.f (k : Nat)  : Option (Bool) := (ipv4_Make.f k 0 0 0 0 0 0 0 0 false (⟨#[]⟩ : ByteArray)).bind fun t138 => (if (t138.size : Int) = 20 then (if 0 ≤ 4 then (if 4 ≤ (t138.size : Int) then (if (t138.extract 0 4).toList = ([69, 0, 0, 20] : List UInt8) then (if 10 ≤ 12 then (if 12 ≤ (t138.size : Int) then (some ((t138.extract 10 12).toList == ([186, 235] : List UInt8))) else (none)) else (none)) else (some false)) else (none)) else (none)) else (some false))
theorem flashlocklaw11_lives.mono : ∀ k, LeO (flashlocklaw11_lives.f k ) (flashlocklaw11_lives.f (k + 1) ) := by
  intro  k
  unfold flashlocklaw11_lives.f
  repeat' first
      | (with_reducible exact ipv4_Make.mono _ _ _ _ _ _ _ _ _ _ _)
      | (with_reducible exact LeO.refl _)
      | (with_reducible exact LeO.none _)
      | (with_reducible refine LeO.ite ?_ ?_)
      | (with_reducible refine LeO.bind ?_ (fun _ => ?_))
      | exact ipv4_Make.mono _ _ _ _ _ _ _ _ _ _ _
      | exact LeO.none _
      | refine LeO.ite ?_ ?_
      | refine LeO.bind ?_ (fun _ => ?_)
set_option maxHeartbeats 8000000 in
set_option maxRecDepth 100000 in
theorem flashlocklaw11_lives.calls (k : Nat)  (r : Bool) (w : World) (h : flashlocklaw11_lives.f k  = some r) :
    Calls Try.prog 84 #[] w fun e w' => e = .returned (.bool r) ∧ Below w.heap.size w w' := by
  have hu112 := Try.underlying112
  have HB := Aside0.mk (Below.refl w.heap.size w)
  have H : ((ipv4_Make.f k 0 0 0 0 0 0 0 0 false (⟨#[]⟩ : ByteArray)).bind fun t138 => (if (t138.size : Int) = 20 then (if 0 ≤ 4 then (if 4 ≤ (t138.size : Int) then (if (t138.extract 0 4).toList = ([69, 0, 0, 20] : List UInt8) then (if 10 ≤ 12 then (if 12 ≤ (t138.size : Int) then (some ((t138.extract 10 12).toList == ([186, 235] : List UInt8))) else (none)) else (none)) else (some false)) else (none)) else (none)) else (some false))) = some r := h
  clear h
  replace H := Option.bind_eq_some_iff.mp H
  obtain ⟨t138, A10, H⟩ := H
  replace H : (if (t138.size : Int) = 20 then (if 0 ≤ 4 then (if 4 ≤ (t138.size : Int) then (if (t138.extract 0 4).toList = ([69, 0, 0, 20] : List UInt8) then (if 10 ≤ 12 then (if 12 ≤ (t138.size : Int) then (some ((t138.extract 10 12).toList == ([186, 235] : List UInt8))) else (none)) else (none)) else (some false)) else (none)) else (none)) else (some false)) = some r := H
  have A1 := Aside0.mk A10
  clear A10
  by_cases c2 : (t138.size : Int) = 20
  · rw [if_pos c2] at H
    have c2b0 : ((t138.size : Int) == 20) = true := beq_iff_eq.mpr c2
    have c2b1 : ((t138.size : Int) != 20) = false := bne_eq_false_iff_eq.mpr c2
    clear c2
    by_cases c3 : 0 ≤ 4
    · rw [if_pos c3] at H
      have c3b0 := eq_true c3
      have c3b1 : decide (0 ≤ 4) = true := decide_eq_true c3
      clear c3
      by_cases c4 : 4 ≤ (t138.size : Int)
      · rw [if_pos c4] at H
        have c4b0 := eq_true c4
        have c4b1 : decide (4 ≤ (t138.size : Int)) = true := decide_eq_true c4
        clear c4
        by_cases c5 : (t138.extract 0 4).toList = ([69, 0, 0, 20] : List UInt8)
        · rw [if_pos c5] at H
          have c5b0 : ((t138.extract 0 4).toList == ([69, 0, 0, 20] : List UInt8)) = true := beq_iff_eq.mpr c5
          have c5b1 : ((t138.extract 0 4).toList != ([69, 0, 0, 20] : List UInt8)) = false := bne_eq_false_iff_eq.mpr c5
          clear c5
          by_cases c6 : 10 ≤ 12
          · rw [if_pos c6] at H
            have c6b0 := eq_true c6
            have c6b1 : decide (10 ≤ 12) = true := decide_eq_true c6
            clear c6
            by_cases c7 : 12 ≤ (t138.size : Int)
            · rw [if_pos c7] at H
              have c7b0 := eq_true c7
              have c7b1 : decide (12 ≤ (t138.size : Int)) = true := decide_eq_true c7
              clear c7
              obtain rfl := Option.some.inj H
              go_enter Try.func84, Try.ntmps84
              go_wp2_with (first | ((with_reducible refine gate_callee (f := 89) rfl ?_); refine goesL_ (some 3) rfl rfl Try.func89 (by kernel_rfl) rfl #[.agg #[.int .u64 0, .int .u64 0, .int .u64 0, .int .u64 0, .int .i64 0, .int .i64 0, .int .i64 0, .int .i64 0, .bool false], .string (⟨#[]⟩ : ByteArray)] rfl (by (try simp only [List.map_toArray, List.map_cons, List.map_nil]); first | done | rfl | (simp only [List.length_drop, List.length_take]; rfl)) ?_; (with_reducible refine (ipv4_Make.calls k 0 0 0 0 0 0 0 0 false (⟨#[]⟩ : ByteArray) t138 _ A1.out).mono ?_); rintro e w8 ⟨rfl, hb⟩; refine ⟨_, rfl, ?_⟩; have n0_ := Aside0.mk (below_step (by repeat (first | (with_reducible first | exact HB.out | apply below_alloc | apply pw_below_drewN | apply below_drew1) | exact HB.out)) hb); clear HB; have HB := n0_; clear n0_; (try clear hb); (try clear hb2); (try clear hk); (try clear hi)))
              go_ret
              exact ⟨by first | rfl | (simp [errW_none, errW_some] <;> rfl) | (simp [*, errW_none, errW_some] <;> rfl), by repeat (first | (with_reducible first | exact HB.out | apply below_alloc | apply pw_below_drewN | apply below_drew1) | exact HB.out)⟩
            · rw [if_neg c7] at H
              exact absurd H (by simp)
          · rw [if_neg c6] at H
            exact absurd H (by simp)
        · rw [if_neg c5] at H
          have c5b0 : ((t138.extract 0 4).toList == ([69, 0, 0, 20] : List UInt8)) = false := beq_eq_false_iff_ne.mpr c5
          have c5b1 : ((t138.extract 0 4).toList != ([69, 0, 0, 20] : List UInt8)) = true := bne_iff_ne.mpr c5
          obtain rfl := Option.some.inj H
          go_enter Try.func84, Try.ntmps84
          go_wp2_with (first | ((with_reducible refine gate_callee (f := 89) rfl ?_); refine goesL_ (some 3) rfl rfl Try.func89 (by kernel_rfl) rfl #[.agg #[.int .u64 0, .int .u64 0, .int .u64 0, .int .u64 0, .int .i64 0, .int .i64 0, .int .i64 0, .int .i64 0, .bool false], .string (⟨#[]⟩ : ByteArray)] rfl (by (try simp only [List.map_toArray, List.map_cons, List.map_nil]); first | done | rfl | (simp only [List.length_drop, List.length_take]; rfl)) ?_; (with_reducible refine (ipv4_Make.calls k 0 0 0 0 0 0 0 0 false (⟨#[]⟩ : ByteArray) t138 _ A1.out).mono ?_); rintro e w9 ⟨rfl, hb⟩; refine ⟨_, rfl, ?_⟩; have n0_ := Aside0.mk (below_step (by repeat (first | (with_reducible first | exact HB.out | apply below_alloc | apply pw_below_drewN | apply below_drew1) | exact HB.out)) hb); clear HB; have HB := n0_; clear n0_; (try clear hb); (try clear hb2); (try clear hk); (try clear hi)))
          go_ret
          exact ⟨by first | rfl | (simp [errW_none, errW_some] <;> rfl) | (simp [*, errW_none, errW_some] <;> rfl), by repeat (first | (with_reducible first | exact HB.out | apply below_alloc | apply pw_below_drewN | apply below_drew1) | exact HB.out)⟩
      · rw [if_neg c4] at H
        exact absurd H (by simp)
    · rw [if_neg c3] at H
      exact absurd H (by simp)
  · rw [if_neg c2] at H
    have c2b0 : ((t138.size : Int) == 20) = false := beq_eq_false_iff_ne.mpr c2
    have c2b1 : ((t138.size : Int) != 20) = true := bne_iff_ne.mpr c2
    obtain rfl := Option.some.inj H
    go_enter Try.func84, Try.ntmps84
    go_wp2_with (first | ((with_reducible refine gate_callee (f := 89) rfl ?_); refine goesL_ (some 3) rfl rfl Try.func89 (by kernel_rfl) rfl #[.agg #[.int .u64 0, .int .u64 0, .int .u64 0, .int .u64 0, .int .i64 0, .int .i64 0, .int .i64 0, .int .i64 0, .bool false], .string (⟨#[]⟩ : ByteArray)] rfl (by (try simp only [List.map_toArray, List.map_cons, List.map_nil]); first | done | rfl | (simp only [List.length_drop, List.length_take]; rfl)) ?_; (with_reducible refine (ipv4_Make.calls k 0 0 0 0 0 0 0 0 false (⟨#[]⟩ : ByteArray) t138 _ A1.out).mono ?_); rintro e w10 ⟨rfl, hb⟩; refine ⟨_, rfl, ?_⟩; have n0_ := Aside0.mk (below_step (by repeat (first | (with_reducible first | exact HB.out | apply below_alloc | apply pw_below_drewN | apply below_drew1) | exact HB.out)) hb); clear HB; have HB := n0_; clear n0_; (try clear hb); (try clear hb2); (try clear hk); (try clear hi)))
    go_ret
    exact ⟨by first | rfl | (simp [errW_none, errW_some] <;> rfl) | (simp [*, errW_none, errW_some] <;> rfl), by repeat (first | (with_reducible first | exact HB.out | apply below_alloc | apply pw_below_drewN | apply below_drew1) | exact HB.out)⟩

-- NOT PRINTED: function 48 (octets_Try)

-- NOT PRINTED: function 85 (ipv4_Parse)

end Go.Proofs.Ytlnnghbbjbimoaa.PV
