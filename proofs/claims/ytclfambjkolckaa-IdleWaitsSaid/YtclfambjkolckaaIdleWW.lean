/- The law IdleWaits, walked by its ways. -/
import Derived.Test.YtclfambjkolckaaWTab
import Derived.Test.YtclfambjkolckaaWMore
import Derived.Lib.Hide
import Derived.LoopTactic
import Derived.Laws.Tables
import Derived.Laws.CopyOwn
import Derived.Great.BuildSlice
import Derived.Test.YtclfambjkolckaaLd
import Derived.Test.YtclfambjkolckaaProg
import Derived.Outline
namespace Go.Proofs.Ytclfambjkolckaa.IdleWW
open Go Go.RowKit Go.Proofs.Ytclfambjkolckaa.Ld Go.Proofs.YtclfambjkolckaaW.PrintWords Go.Proofs.YtclfambjkolckaaW.PrintLast Go.Proofs.YtclfambjkolckaaW.PrintMore
set_option linter.unusedVariables false
set_option linter.unusedSimpArgs false
theorem info_s : (Try.prog.info? 99).map (·.size) = some 3 := by kernel_rfl
theorem info_c : (Try.prog.info? 95).map (·.size) = some 11 := by kernel_rfl
theorem info_a : (Try.prog.info? 96).map (·.size) = some 3 := by kernel_rfl
set_option maxRecDepth 100000 in
set_option maxHeartbeats 2000000 in
theorem bad_0lo (c0 c1 : Int) (c2 : Nat) (c3 c4 c5 c6 c7 c8 : Int) (c9 c10 : Bool) (a0 a1 a2 late : Int) (w : World) (l0 : decide (a0 < 0) = true) (hl : ∀ w, Calls Try.prog 87 #[] w fun e w' => e = .returned (.bool true) ∧ Below w.heap.size w w') :
    Calls Try.prog 13 #[.agg #[.int .i64 c0, .int .i64 c1, .float .f64 c2, .int .i64 c3, .int .i64 c4, .int .i64 c5, .int .i64 c6, .int .i64 c7, .int .i64 c8, .bool c9, .bool c10], .agg #[.int .i64 a0, .int .i64 a1, .int .i64 a2], .int .i64 late] w fun e w' => e = .returned (.bool true) ∧ Below w.heap.size w w' := by
  have HL := Lib.hid hl; clear hl
  go_enter Try.func13, Try.ntmps13
  have x0 : ∀ w, Sem.run Try.prog (Instr.index 96 (.agg #[.int .i64 a0, .int .i64 a1, .int .i64 a2]) (.int .i64 0)) w = .ok (.int .i64 a0) w := fun _ => by kernel_rfl
  have x1 : ∀ w, Sem.run Try.prog (Instr.index 96 (.agg #[.int .i64 a0, .int .i64 a1, .int .i64 a2]) (.int .i64 1)) w = .ok (.int .i64 a1) w := fun _ => by kernel_rfl
  have x2 : ∀ w, Sem.run Try.prog (Instr.index 96 (.agg #[.int .i64 a0, .int .i64 a1, .int .i64 a2]) (.int .i64 2)) w = .ok (.int .i64 a2) w := fun _ => by kernel_rfl
  go_wp2
  have Kc0 : Hid (((w.alloc (.cells #[.int .i64 c0, .int .i64 c1, .float .f64 c2, .int .i64 c3, .int .i64 c4, .int .i64 c5, .int .i64 c6, .int .i64 c7, .int .i64 c8, .bool c9, .bool c10] 95 (0, 0))).alloc (.cells #[.int .i64 a0, .int .i64 a1, .int .i64 a2] 96 (0, 0))).heap[w.heap.size]? = some (.cells #[.int .i64 c0, .int .i64 c1, .float .f64 c2, .int .i64 c3, .int .i64 c4, .int .i64 c5, .int .i64 c6, .int .i64 c7, .int .i64 c8, .bool c9, .bool c10] 95 (0, 0))) := Lib.hid (blk_alloc (blk_new w _) _)
  have Ka0 : Hid (((w.alloc (.cells #[.int .i64 c0, .int .i64 c1, .float .f64 c2, .int .i64 c3, .int .i64 c4, .int .i64 c5, .int .i64 c6, .int .i64 c7, .int .i64 c8, .bool c9, .bool c10] 95 (0, 0))).alloc (.cells #[.int .i64 a0, .int .i64 a1, .int .i64 a2] 96 (0, 0))).heap[w.heap.size + 1]? = some (.cells #[.int .i64 a0, .int .i64 a1, .int .i64 a2] 96 (0, 0))) := Lib.hid (new_at _ _ _ (by simp))
  have BB0 : Hid (Below w.heap.size w ((w.alloc (.cells #[.int .i64 c0, .int .i64 c1, .float .f64 c2, .int .i64 c3, .int .i64 c4, .int .i64 c5, .int .i64 c6, .int .i64 c7, .int .i64 c8, .bool c9, .bool c10] 95 (0, 0))).alloc (.cells #[.int .i64 a0, .int .i64 a1, .int .i64 a2] 96 (0, 0)))) := Lib.hid (((Below.refl w.heap.size w).alloc (Nat.le_refl _) _).alloc (by simp) _)
  revert Kc0 Ka0 BB0
  generalize ((w.alloc (.cells #[.int .i64 c0, .int .i64 c1, .float .f64 c2, .int .i64 c3, .int .i64 c4, .int .i64 c5, .int .i64 c6, .int .i64 c7, .int .i64 c8, .bool c9, .bool c10] 95 (0, 0))).alloc (.cells #[.int .i64 a0, .int .i64 a1, .int .i64 a2] 96 (0, 0))) = w0
  intro Kc0 Ka0 BB0
  refine wp_loop_rounds 4 ?_
  rw [rounds_succ]
  go_wp2_with ((with_reducible refine (HL.out _).mono ?_); rintro e w1 ⟨rfl, hb⟩)
  go_ret
  exact ⟨rfl, Below.trans BB0.out (hb.mono BB0.out.size)⟩
set_option maxRecDepth 100000 in
set_option maxHeartbeats 2000000 in
theorem bad_0hi (c0 c1 : Int) (c2 : Nat) (c3 c4 c5 c6 c7 c8 : Int) (c9 c10 : Bool) (a0 a1 a2 late : Int) (w : World) (l0 : decide (a0 < 0) = false) (m0 : decide (1099511627776 < a0) = true) (hl : ∀ w, Calls Try.prog 87 #[] w fun e w' => e = .returned (.bool true) ∧ Below w.heap.size w w') :
    Calls Try.prog 13 #[.agg #[.int .i64 c0, .int .i64 c1, .float .f64 c2, .int .i64 c3, .int .i64 c4, .int .i64 c5, .int .i64 c6, .int .i64 c7, .int .i64 c8, .bool c9, .bool c10], .agg #[.int .i64 a0, .int .i64 a1, .int .i64 a2], .int .i64 late] w fun e w' => e = .returned (.bool true) ∧ Below w.heap.size w w' := by
  have HL := Lib.hid hl; clear hl
  go_enter Try.func13, Try.ntmps13
  have x0 : ∀ w, Sem.run Try.prog (Instr.index 96 (.agg #[.int .i64 a0, .int .i64 a1, .int .i64 a2]) (.int .i64 0)) w = .ok (.int .i64 a0) w := fun _ => by kernel_rfl
  have x1 : ∀ w, Sem.run Try.prog (Instr.index 96 (.agg #[.int .i64 a0, .int .i64 a1, .int .i64 a2]) (.int .i64 1)) w = .ok (.int .i64 a1) w := fun _ => by kernel_rfl
  have x2 : ∀ w, Sem.run Try.prog (Instr.index 96 (.agg #[.int .i64 a0, .int .i64 a1, .int .i64 a2]) (.int .i64 2)) w = .ok (.int .i64 a2) w := fun _ => by kernel_rfl
  go_wp2
  have Kc0 : Hid (((w.alloc (.cells #[.int .i64 c0, .int .i64 c1, .float .f64 c2, .int .i64 c3, .int .i64 c4, .int .i64 c5, .int .i64 c6, .int .i64 c7, .int .i64 c8, .bool c9, .bool c10] 95 (0, 0))).alloc (.cells #[.int .i64 a0, .int .i64 a1, .int .i64 a2] 96 (0, 0))).heap[w.heap.size]? = some (.cells #[.int .i64 c0, .int .i64 c1, .float .f64 c2, .int .i64 c3, .int .i64 c4, .int .i64 c5, .int .i64 c6, .int .i64 c7, .int .i64 c8, .bool c9, .bool c10] 95 (0, 0))) := Lib.hid (blk_alloc (blk_new w _) _)
  have Ka0 : Hid (((w.alloc (.cells #[.int .i64 c0, .int .i64 c1, .float .f64 c2, .int .i64 c3, .int .i64 c4, .int .i64 c5, .int .i64 c6, .int .i64 c7, .int .i64 c8, .bool c9, .bool c10] 95 (0, 0))).alloc (.cells #[.int .i64 a0, .int .i64 a1, .int .i64 a2] 96 (0, 0))).heap[w.heap.size + 1]? = some (.cells #[.int .i64 a0, .int .i64 a1, .int .i64 a2] 96 (0, 0))) := Lib.hid (new_at _ _ _ (by simp))
  have BB0 : Hid (Below w.heap.size w ((w.alloc (.cells #[.int .i64 c0, .int .i64 c1, .float .f64 c2, .int .i64 c3, .int .i64 c4, .int .i64 c5, .int .i64 c6, .int .i64 c7, .int .i64 c8, .bool c9, .bool c10] 95 (0, 0))).alloc (.cells #[.int .i64 a0, .int .i64 a1, .int .i64 a2] 96 (0, 0)))) := Lib.hid (((Below.refl w.heap.size w).alloc (Nat.le_refl _) _).alloc (by simp) _)
  revert Kc0 Ka0 BB0
  generalize ((w.alloc (.cells #[.int .i64 c0, .int .i64 c1, .float .f64 c2, .int .i64 c3, .int .i64 c4, .int .i64 c5, .int .i64 c6, .int .i64 c7, .int .i64 c8, .bool c9, .bool c10] 95 (0, 0))).alloc (.cells #[.int .i64 a0, .int .i64 a1, .int .i64 a2] 96 (0, 0))) = w0
  intro Kc0 Ka0 BB0
  refine wp_loop_rounds 4 ?_
  rw [rounds_succ]
  go_wp2_with ((with_reducible refine (HL.out _).mono ?_); rintro e w1 ⟨rfl, hb⟩)
  go_ret
  exact ⟨rfl, Below.trans BB0.out (hb.mono BB0.out.size)⟩
set_option maxRecDepth 100000 in
set_option maxHeartbeats 2000000 in
theorem bad_1lo (c0 c1 : Int) (c2 : Nat) (c3 c4 c5 c6 c7 c8 : Int) (c9 c10 : Bool) (a0 a1 a2 late : Int) (w : World) (l0 : decide (a0 < 0) = false) (m0 : decide (1099511627776 < a0) = false) (l1 : decide (a1 < 0) = true) (hl : ∀ w, Calls Try.prog 87 #[] w fun e w' => e = .returned (.bool true) ∧ Below w.heap.size w w') :
    Calls Try.prog 13 #[.agg #[.int .i64 c0, .int .i64 c1, .float .f64 c2, .int .i64 c3, .int .i64 c4, .int .i64 c5, .int .i64 c6, .int .i64 c7, .int .i64 c8, .bool c9, .bool c10], .agg #[.int .i64 a0, .int .i64 a1, .int .i64 a2], .int .i64 late] w fun e w' => e = .returned (.bool true) ∧ Below w.heap.size w w' := by
  have HL := Lib.hid hl; clear hl
  go_enter Try.func13, Try.ntmps13
  have x0 : ∀ w, Sem.run Try.prog (Instr.index 96 (.agg #[.int .i64 a0, .int .i64 a1, .int .i64 a2]) (.int .i64 0)) w = .ok (.int .i64 a0) w := fun _ => by kernel_rfl
  have x1 : ∀ w, Sem.run Try.prog (Instr.index 96 (.agg #[.int .i64 a0, .int .i64 a1, .int .i64 a2]) (.int .i64 1)) w = .ok (.int .i64 a1) w := fun _ => by kernel_rfl
  have x2 : ∀ w, Sem.run Try.prog (Instr.index 96 (.agg #[.int .i64 a0, .int .i64 a1, .int .i64 a2]) (.int .i64 2)) w = .ok (.int .i64 a2) w := fun _ => by kernel_rfl
  go_wp2
  have Kc0 : Hid (((w.alloc (.cells #[.int .i64 c0, .int .i64 c1, .float .f64 c2, .int .i64 c3, .int .i64 c4, .int .i64 c5, .int .i64 c6, .int .i64 c7, .int .i64 c8, .bool c9, .bool c10] 95 (0, 0))).alloc (.cells #[.int .i64 a0, .int .i64 a1, .int .i64 a2] 96 (0, 0))).heap[w.heap.size]? = some (.cells #[.int .i64 c0, .int .i64 c1, .float .f64 c2, .int .i64 c3, .int .i64 c4, .int .i64 c5, .int .i64 c6, .int .i64 c7, .int .i64 c8, .bool c9, .bool c10] 95 (0, 0))) := Lib.hid (blk_alloc (blk_new w _) _)
  have Ka0 : Hid (((w.alloc (.cells #[.int .i64 c0, .int .i64 c1, .float .f64 c2, .int .i64 c3, .int .i64 c4, .int .i64 c5, .int .i64 c6, .int .i64 c7, .int .i64 c8, .bool c9, .bool c10] 95 (0, 0))).alloc (.cells #[.int .i64 a0, .int .i64 a1, .int .i64 a2] 96 (0, 0))).heap[w.heap.size + 1]? = some (.cells #[.int .i64 a0, .int .i64 a1, .int .i64 a2] 96 (0, 0))) := Lib.hid (new_at _ _ _ (by simp))
  have BB0 : Hid (Below w.heap.size w ((w.alloc (.cells #[.int .i64 c0, .int .i64 c1, .float .f64 c2, .int .i64 c3, .int .i64 c4, .int .i64 c5, .int .i64 c6, .int .i64 c7, .int .i64 c8, .bool c9, .bool c10] 95 (0, 0))).alloc (.cells #[.int .i64 a0, .int .i64 a1, .int .i64 a2] 96 (0, 0)))) := Lib.hid (((Below.refl w.heap.size w).alloc (Nat.le_refl _) _).alloc (by simp) _)
  revert Kc0 Ka0 BB0
  generalize ((w.alloc (.cells #[.int .i64 c0, .int .i64 c1, .float .f64 c2, .int .i64 c3, .int .i64 c4, .int .i64 c5, .int .i64 c6, .int .i64 c7, .int .i64 c8, .bool c9, .bool c10] 95 (0, 0))).alloc (.cells #[.int .i64 a0, .int .i64 a1, .int .i64 a2] 96 (0, 0))) = w0
  intro Kc0 Ka0 BB0
  refine wp_loop_rounds 4 ?_
  rw [rounds_succ]
  go_wp2
  rw [rounds_succ]
  go_wp2_with ((with_reducible refine (HL.out _).mono ?_); rintro e w1 ⟨rfl, hb⟩)
  go_ret
  exact ⟨rfl, Below.trans BB0.out (hb.mono BB0.out.size)⟩
set_option maxRecDepth 100000 in
set_option maxHeartbeats 2000000 in
theorem bad_1hi (c0 c1 : Int) (c2 : Nat) (c3 c4 c5 c6 c7 c8 : Int) (c9 c10 : Bool) (a0 a1 a2 late : Int) (w : World) (l0 : decide (a0 < 0) = false) (m0 : decide (1099511627776 < a0) = false) (l1 : decide (a1 < 0) = false) (m1 : decide (1099511627776 < a1) = true) (hl : ∀ w, Calls Try.prog 87 #[] w fun e w' => e = .returned (.bool true) ∧ Below w.heap.size w w') :
    Calls Try.prog 13 #[.agg #[.int .i64 c0, .int .i64 c1, .float .f64 c2, .int .i64 c3, .int .i64 c4, .int .i64 c5, .int .i64 c6, .int .i64 c7, .int .i64 c8, .bool c9, .bool c10], .agg #[.int .i64 a0, .int .i64 a1, .int .i64 a2], .int .i64 late] w fun e w' => e = .returned (.bool true) ∧ Below w.heap.size w w' := by
  have HL := Lib.hid hl; clear hl
  go_enter Try.func13, Try.ntmps13
  have x0 : ∀ w, Sem.run Try.prog (Instr.index 96 (.agg #[.int .i64 a0, .int .i64 a1, .int .i64 a2]) (.int .i64 0)) w = .ok (.int .i64 a0) w := fun _ => by kernel_rfl
  have x1 : ∀ w, Sem.run Try.prog (Instr.index 96 (.agg #[.int .i64 a0, .int .i64 a1, .int .i64 a2]) (.int .i64 1)) w = .ok (.int .i64 a1) w := fun _ => by kernel_rfl
  have x2 : ∀ w, Sem.run Try.prog (Instr.index 96 (.agg #[.int .i64 a0, .int .i64 a1, .int .i64 a2]) (.int .i64 2)) w = .ok (.int .i64 a2) w := fun _ => by kernel_rfl
  go_wp2
  have Kc0 : Hid (((w.alloc (.cells #[.int .i64 c0, .int .i64 c1, .float .f64 c2, .int .i64 c3, .int .i64 c4, .int .i64 c5, .int .i64 c6, .int .i64 c7, .int .i64 c8, .bool c9, .bool c10] 95 (0, 0))).alloc (.cells #[.int .i64 a0, .int .i64 a1, .int .i64 a2] 96 (0, 0))).heap[w.heap.size]? = some (.cells #[.int .i64 c0, .int .i64 c1, .float .f64 c2, .int .i64 c3, .int .i64 c4, .int .i64 c5, .int .i64 c6, .int .i64 c7, .int .i64 c8, .bool c9, .bool c10] 95 (0, 0))) := Lib.hid (blk_alloc (blk_new w _) _)
  have Ka0 : Hid (((w.alloc (.cells #[.int .i64 c0, .int .i64 c1, .float .f64 c2, .int .i64 c3, .int .i64 c4, .int .i64 c5, .int .i64 c6, .int .i64 c7, .int .i64 c8, .bool c9, .bool c10] 95 (0, 0))).alloc (.cells #[.int .i64 a0, .int .i64 a1, .int .i64 a2] 96 (0, 0))).heap[w.heap.size + 1]? = some (.cells #[.int .i64 a0, .int .i64 a1, .int .i64 a2] 96 (0, 0))) := Lib.hid (new_at _ _ _ (by simp))
  have BB0 : Hid (Below w.heap.size w ((w.alloc (.cells #[.int .i64 c0, .int .i64 c1, .float .f64 c2, .int .i64 c3, .int .i64 c4, .int .i64 c5, .int .i64 c6, .int .i64 c7, .int .i64 c8, .bool c9, .bool c10] 95 (0, 0))).alloc (.cells #[.int .i64 a0, .int .i64 a1, .int .i64 a2] 96 (0, 0)))) := Lib.hid (((Below.refl w.heap.size w).alloc (Nat.le_refl _) _).alloc (by simp) _)
  revert Kc0 Ka0 BB0
  generalize ((w.alloc (.cells #[.int .i64 c0, .int .i64 c1, .float .f64 c2, .int .i64 c3, .int .i64 c4, .int .i64 c5, .int .i64 c6, .int .i64 c7, .int .i64 c8, .bool c9, .bool c10] 95 (0, 0))).alloc (.cells #[.int .i64 a0, .int .i64 a1, .int .i64 a2] 96 (0, 0))) = w0
  intro Kc0 Ka0 BB0
  refine wp_loop_rounds 4 ?_
  rw [rounds_succ]
  go_wp2
  rw [rounds_succ]
  go_wp2_with ((with_reducible refine (HL.out _).mono ?_); rintro e w1 ⟨rfl, hb⟩)
  go_ret
  exact ⟨rfl, Below.trans BB0.out (hb.mono BB0.out.size)⟩
set_option maxRecDepth 100000 in
set_option maxHeartbeats 2000000 in
theorem bad_2lo (c0 c1 : Int) (c2 : Nat) (c3 c4 c5 c6 c7 c8 : Int) (c9 c10 : Bool) (a0 a1 a2 late : Int) (w : World) (l0 : decide (a0 < 0) = false) (m0 : decide (1099511627776 < a0) = false) (l1 : decide (a1 < 0) = false) (m1 : decide (1099511627776 < a1) = false) (l2 : decide (a2 < 0) = true) (hl : ∀ w, Calls Try.prog 87 #[] w fun e w' => e = .returned (.bool true) ∧ Below w.heap.size w w') :
    Calls Try.prog 13 #[.agg #[.int .i64 c0, .int .i64 c1, .float .f64 c2, .int .i64 c3, .int .i64 c4, .int .i64 c5, .int .i64 c6, .int .i64 c7, .int .i64 c8, .bool c9, .bool c10], .agg #[.int .i64 a0, .int .i64 a1, .int .i64 a2], .int .i64 late] w fun e w' => e = .returned (.bool true) ∧ Below w.heap.size w w' := by
  have HL := Lib.hid hl; clear hl
  go_enter Try.func13, Try.ntmps13
  have x0 : ∀ w, Sem.run Try.prog (Instr.index 96 (.agg #[.int .i64 a0, .int .i64 a1, .int .i64 a2]) (.int .i64 0)) w = .ok (.int .i64 a0) w := fun _ => by kernel_rfl
  have x1 : ∀ w, Sem.run Try.prog (Instr.index 96 (.agg #[.int .i64 a0, .int .i64 a1, .int .i64 a2]) (.int .i64 1)) w = .ok (.int .i64 a1) w := fun _ => by kernel_rfl
  have x2 : ∀ w, Sem.run Try.prog (Instr.index 96 (.agg #[.int .i64 a0, .int .i64 a1, .int .i64 a2]) (.int .i64 2)) w = .ok (.int .i64 a2) w := fun _ => by kernel_rfl
  go_wp2
  have Kc0 : Hid (((w.alloc (.cells #[.int .i64 c0, .int .i64 c1, .float .f64 c2, .int .i64 c3, .int .i64 c4, .int .i64 c5, .int .i64 c6, .int .i64 c7, .int .i64 c8, .bool c9, .bool c10] 95 (0, 0))).alloc (.cells #[.int .i64 a0, .int .i64 a1, .int .i64 a2] 96 (0, 0))).heap[w.heap.size]? = some (.cells #[.int .i64 c0, .int .i64 c1, .float .f64 c2, .int .i64 c3, .int .i64 c4, .int .i64 c5, .int .i64 c6, .int .i64 c7, .int .i64 c8, .bool c9, .bool c10] 95 (0, 0))) := Lib.hid (blk_alloc (blk_new w _) _)
  have Ka0 : Hid (((w.alloc (.cells #[.int .i64 c0, .int .i64 c1, .float .f64 c2, .int .i64 c3, .int .i64 c4, .int .i64 c5, .int .i64 c6, .int .i64 c7, .int .i64 c8, .bool c9, .bool c10] 95 (0, 0))).alloc (.cells #[.int .i64 a0, .int .i64 a1, .int .i64 a2] 96 (0, 0))).heap[w.heap.size + 1]? = some (.cells #[.int .i64 a0, .int .i64 a1, .int .i64 a2] 96 (0, 0))) := Lib.hid (new_at _ _ _ (by simp))
  have BB0 : Hid (Below w.heap.size w ((w.alloc (.cells #[.int .i64 c0, .int .i64 c1, .float .f64 c2, .int .i64 c3, .int .i64 c4, .int .i64 c5, .int .i64 c6, .int .i64 c7, .int .i64 c8, .bool c9, .bool c10] 95 (0, 0))).alloc (.cells #[.int .i64 a0, .int .i64 a1, .int .i64 a2] 96 (0, 0)))) := Lib.hid (((Below.refl w.heap.size w).alloc (Nat.le_refl _) _).alloc (by simp) _)
  revert Kc0 Ka0 BB0
  generalize ((w.alloc (.cells #[.int .i64 c0, .int .i64 c1, .float .f64 c2, .int .i64 c3, .int .i64 c4, .int .i64 c5, .int .i64 c6, .int .i64 c7, .int .i64 c8, .bool c9, .bool c10] 95 (0, 0))).alloc (.cells #[.int .i64 a0, .int .i64 a1, .int .i64 a2] 96 (0, 0))) = w0
  intro Kc0 Ka0 BB0
  refine wp_loop_rounds 4 ?_
  rw [rounds_succ]
  go_wp2
  rw [rounds_succ]
  go_wp2
  rw [rounds_succ]
  go_wp2_with ((with_reducible refine (HL.out _).mono ?_); rintro e w1 ⟨rfl, hb⟩)
  go_ret
  exact ⟨rfl, Below.trans BB0.out (hb.mono BB0.out.size)⟩
set_option maxRecDepth 100000 in
set_option maxHeartbeats 2000000 in
theorem bad_2hi (c0 c1 : Int) (c2 : Nat) (c3 c4 c5 c6 c7 c8 : Int) (c9 c10 : Bool) (a0 a1 a2 late : Int) (w : World) (l0 : decide (a0 < 0) = false) (m0 : decide (1099511627776 < a0) = false) (l1 : decide (a1 < 0) = false) (m1 : decide (1099511627776 < a1) = false) (l2 : decide (a2 < 0) = false) (m2 : decide (1099511627776 < a2) = true) (hl : ∀ w, Calls Try.prog 87 #[] w fun e w' => e = .returned (.bool true) ∧ Below w.heap.size w w') :
    Calls Try.prog 13 #[.agg #[.int .i64 c0, .int .i64 c1, .float .f64 c2, .int .i64 c3, .int .i64 c4, .int .i64 c5, .int .i64 c6, .int .i64 c7, .int .i64 c8, .bool c9, .bool c10], .agg #[.int .i64 a0, .int .i64 a1, .int .i64 a2], .int .i64 late] w fun e w' => e = .returned (.bool true) ∧ Below w.heap.size w w' := by
  have HL := Lib.hid hl; clear hl
  go_enter Try.func13, Try.ntmps13
  have x0 : ∀ w, Sem.run Try.prog (Instr.index 96 (.agg #[.int .i64 a0, .int .i64 a1, .int .i64 a2]) (.int .i64 0)) w = .ok (.int .i64 a0) w := fun _ => by kernel_rfl
  have x1 : ∀ w, Sem.run Try.prog (Instr.index 96 (.agg #[.int .i64 a0, .int .i64 a1, .int .i64 a2]) (.int .i64 1)) w = .ok (.int .i64 a1) w := fun _ => by kernel_rfl
  have x2 : ∀ w, Sem.run Try.prog (Instr.index 96 (.agg #[.int .i64 a0, .int .i64 a1, .int .i64 a2]) (.int .i64 2)) w = .ok (.int .i64 a2) w := fun _ => by kernel_rfl
  go_wp2
  have Kc0 : Hid (((w.alloc (.cells #[.int .i64 c0, .int .i64 c1, .float .f64 c2, .int .i64 c3, .int .i64 c4, .int .i64 c5, .int .i64 c6, .int .i64 c7, .int .i64 c8, .bool c9, .bool c10] 95 (0, 0))).alloc (.cells #[.int .i64 a0, .int .i64 a1, .int .i64 a2] 96 (0, 0))).heap[w.heap.size]? = some (.cells #[.int .i64 c0, .int .i64 c1, .float .f64 c2, .int .i64 c3, .int .i64 c4, .int .i64 c5, .int .i64 c6, .int .i64 c7, .int .i64 c8, .bool c9, .bool c10] 95 (0, 0))) := Lib.hid (blk_alloc (blk_new w _) _)
  have Ka0 : Hid (((w.alloc (.cells #[.int .i64 c0, .int .i64 c1, .float .f64 c2, .int .i64 c3, .int .i64 c4, .int .i64 c5, .int .i64 c6, .int .i64 c7, .int .i64 c8, .bool c9, .bool c10] 95 (0, 0))).alloc (.cells #[.int .i64 a0, .int .i64 a1, .int .i64 a2] 96 (0, 0))).heap[w.heap.size + 1]? = some (.cells #[.int .i64 a0, .int .i64 a1, .int .i64 a2] 96 (0, 0))) := Lib.hid (new_at _ _ _ (by simp))
  have BB0 : Hid (Below w.heap.size w ((w.alloc (.cells #[.int .i64 c0, .int .i64 c1, .float .f64 c2, .int .i64 c3, .int .i64 c4, .int .i64 c5, .int .i64 c6, .int .i64 c7, .int .i64 c8, .bool c9, .bool c10] 95 (0, 0))).alloc (.cells #[.int .i64 a0, .int .i64 a1, .int .i64 a2] 96 (0, 0)))) := Lib.hid (((Below.refl w.heap.size w).alloc (Nat.le_refl _) _).alloc (by simp) _)
  revert Kc0 Ka0 BB0
  generalize ((w.alloc (.cells #[.int .i64 c0, .int .i64 c1, .float .f64 c2, .int .i64 c3, .int .i64 c4, .int .i64 c5, .int .i64 c6, .int .i64 c7, .int .i64 c8, .bool c9, .bool c10] 95 (0, 0))).alloc (.cells #[.int .i64 a0, .int .i64 a1, .int .i64 a2] 96 (0, 0))) = w0
  intro Kc0 Ka0 BB0
  refine wp_loop_rounds 4 ?_
  rw [rounds_succ]
  go_wp2
  rw [rounds_succ]
  go_wp2
  rw [rounds_succ]
  go_wp2_with ((with_reducible refine (HL.out _).mono ?_); rintro e w1 ⟨rfl, hb⟩)
  go_ret
  exact ⟨rfl, Below.trans BB0.out (hb.mono BB0.out.size)⟩
set_option maxRecDepth 100000 in
set_option maxHeartbeats 2000000 in
theorem wrong (c0 c1 : Int) (c2 : Nat) (c3 c4 c5 c6 c7 c8 : Int) (c9 c10 : Bool) (a0 a1 a2 late rv : Int) (w : World) (l0 : decide (a0 < 0) = false) (m0 : decide (1099511627776 < a0) = false) (l1 : decide (a1 < 0) = false) (m1 : decide (1099511627776 < a1) = false) (l2 : decide (a2 < 0) = false) (m2 : decide (1099511627776 < a2) = false) (hr : ∀ w, Calls Try.prog 88 #[.agg #[.int .i64 c0, .int .i64 c1, .float .f64 c2, .int .i64 c3, .int .i64 c4, .int .i64 c5, .int .i64 c6, .int .i64 c7, .int .i64 c8, .bool c9, .bool c10]] w fun e w' => e = .returned (.int .i64 rv) ∧ Below w.heap.size w w') (hv : (rv != 0) = true) (hl : ∀ w, Calls Try.prog 87 #[] w fun e w' => e = .returned (.bool true) ∧ Below w.heap.size w w') :
    Calls Try.prog 13 #[.agg #[.int .i64 c0, .int .i64 c1, .float .f64 c2, .int .i64 c3, .int .i64 c4, .int .i64 c5, .int .i64 c6, .int .i64 c7, .int .i64 c8, .bool c9, .bool c10], .agg #[.int .i64 a0, .int .i64 a1, .int .i64 a2], .int .i64 late] w fun e w' => e = .returned (.bool true) ∧ Below w.heap.size w w' := by
  have HL := Lib.hid hl; have HR := Lib.hid hr; clear hl hr
  go_enter Try.func13, Try.ntmps13
  have x0 : ∀ w, Sem.run Try.prog (Instr.index 96 (.agg #[.int .i64 a0, .int .i64 a1, .int .i64 a2]) (.int .i64 0)) w = .ok (.int .i64 a0) w := fun _ => by kernel_rfl
  have x1 : ∀ w, Sem.run Try.prog (Instr.index 96 (.agg #[.int .i64 a0, .int .i64 a1, .int .i64 a2]) (.int .i64 1)) w = .ok (.int .i64 a1) w := fun _ => by kernel_rfl
  have x2 : ∀ w, Sem.run Try.prog (Instr.index 96 (.agg #[.int .i64 a0, .int .i64 a1, .int .i64 a2]) (.int .i64 2)) w = .ok (.int .i64 a2) w := fun _ => by kernel_rfl
  go_wp2
  have Kc0 : Hid (((w.alloc (.cells #[.int .i64 c0, .int .i64 c1, .float .f64 c2, .int .i64 c3, .int .i64 c4, .int .i64 c5, .int .i64 c6, .int .i64 c7, .int .i64 c8, .bool c9, .bool c10] 95 (0, 0))).alloc (.cells #[.int .i64 a0, .int .i64 a1, .int .i64 a2] 96 (0, 0))).heap[w.heap.size]? = some (.cells #[.int .i64 c0, .int .i64 c1, .float .f64 c2, .int .i64 c3, .int .i64 c4, .int .i64 c5, .int .i64 c6, .int .i64 c7, .int .i64 c8, .bool c9, .bool c10] 95 (0, 0))) := Lib.hid (blk_alloc (blk_new w _) _)
  have Ka0 : Hid (((w.alloc (.cells #[.int .i64 c0, .int .i64 c1, .float .f64 c2, .int .i64 c3, .int .i64 c4, .int .i64 c5, .int .i64 c6, .int .i64 c7, .int .i64 c8, .bool c9, .bool c10] 95 (0, 0))).alloc (.cells #[.int .i64 a0, .int .i64 a1, .int .i64 a2] 96 (0, 0))).heap[w.heap.size + 1]? = some (.cells #[.int .i64 a0, .int .i64 a1, .int .i64 a2] 96 (0, 0))) := Lib.hid (new_at _ _ _ (by simp))
  have BB0 : Hid (Below w.heap.size w ((w.alloc (.cells #[.int .i64 c0, .int .i64 c1, .float .f64 c2, .int .i64 c3, .int .i64 c4, .int .i64 c5, .int .i64 c6, .int .i64 c7, .int .i64 c8, .bool c9, .bool c10] 95 (0, 0))).alloc (.cells #[.int .i64 a0, .int .i64 a1, .int .i64 a2] 96 (0, 0)))) := Lib.hid (((Below.refl w.heap.size w).alloc (Nat.le_refl _) _).alloc (by simp) _)
  revert Kc0 Ka0 BB0
  generalize ((w.alloc (.cells #[.int .i64 c0, .int .i64 c1, .float .f64 c2, .int .i64 c3, .int .i64 c4, .int .i64 c5, .int .i64 c6, .int .i64 c7, .int .i64 c8, .bool c9, .bool c10] 95 (0, 0))).alloc (.cells #[.int .i64 a0, .int .i64 a1, .int .i64 a2] 96 (0, 0))) = w0
  intro Kc0 Ka0 BB0
  refine wp_loop_rounds 4 ?_
  rw [rounds_succ]
  go_wp2
  rw [rounds_succ]
  go_wp2
  rw [rounds_succ]
  go_wp2
  rw [rounds_succ]
  go_wp2_with ((with_reducible refine gate_dst (N := 24) rfl ?_); refine wpList_load_row rfl 95 (.tmp 3) rfl (w.heap.size) rfl 95 #[.int .i64 c0, .int .i64 c1, .float .f64 c2, .int .i64 c3, .int .i64 c4, .int .i64 c5, .int .i64 c6, .int .i64 c7, .int .i64 c8, .bool c9, .bool c10] (0, 0) _ Kc0.out Try.underlying95 rfl info_c ?_)
  (with_reducible refine (HR.out _).mono ?_); rintro e w1 ⟨rfl, hb⟩
  have BB1 : Hid (Below w.heap.size w w1) := Lib.hid (Below.trans BB0.out (hb.mono BB0.out.size))
  clear hb
  go_wp2_with ((with_reducible refine (HL.out _).mono ?_); rintro e w2 ⟨rfl, hb⟩)
  go_ret
  exact ⟨rfl, Below.trans BB1.out (hb.mono BB1.out.size)⟩
set_option maxRecDepth 100000 in
set_option maxHeartbeats 2000000 in
theorem late0 (c0 c1 : Int) (c2 : Nat) (c3 c4 c5 c6 c7 c8 : Int) (c9 c10 : Bool) (a0 a1 a2 late rv : Int) (w : World) (l0 : decide (a0 < 0) = false) (m0 : decide (1099511627776 < a0) = false) (l1 : decide (a1 < 0) = false) (m1 : decide (1099511627776 < a1) = false) (l2 : decide (a2 < 0) = false) (m2 : decide (1099511627776 < a2) = false) (hr : ∀ w, Calls Try.prog 88 #[.agg #[.int .i64 c0, .int .i64 c1, .float .f64 c2, .int .i64 c3, .int .i64 c4, .int .i64 c5, .int .i64 c6, .int .i64 c7, .int .i64 c8, .bool c9, .bool c10]] w fun e w' => e = .returned (.int .i64 0) ∧ Below w.heap.size w w') (l3 : decide (late < 0) = true) (hl : ∀ w, Calls Try.prog 87 #[] w fun e w' => e = .returned (.bool true) ∧ Below w.heap.size w w') :
    Calls Try.prog 13 #[.agg #[.int .i64 c0, .int .i64 c1, .float .f64 c2, .int .i64 c3, .int .i64 c4, .int .i64 c5, .int .i64 c6, .int .i64 c7, .int .i64 c8, .bool c9, .bool c10], .agg #[.int .i64 a0, .int .i64 a1, .int .i64 a2], .int .i64 late] w fun e w' => e = .returned (.bool true) ∧ Below w.heap.size w w' := by
  have HL := Lib.hid hl; have HR := Lib.hid hr; clear hl hr
  go_enter Try.func13, Try.ntmps13
  have x0 : ∀ w, Sem.run Try.prog (Instr.index 96 (.agg #[.int .i64 a0, .int .i64 a1, .int .i64 a2]) (.int .i64 0)) w = .ok (.int .i64 a0) w := fun _ => by kernel_rfl
  have x1 : ∀ w, Sem.run Try.prog (Instr.index 96 (.agg #[.int .i64 a0, .int .i64 a1, .int .i64 a2]) (.int .i64 1)) w = .ok (.int .i64 a1) w := fun _ => by kernel_rfl
  have x2 : ∀ w, Sem.run Try.prog (Instr.index 96 (.agg #[.int .i64 a0, .int .i64 a1, .int .i64 a2]) (.int .i64 2)) w = .ok (.int .i64 a2) w := fun _ => by kernel_rfl
  go_wp2
  have Kc0 : Hid (((w.alloc (.cells #[.int .i64 c0, .int .i64 c1, .float .f64 c2, .int .i64 c3, .int .i64 c4, .int .i64 c5, .int .i64 c6, .int .i64 c7, .int .i64 c8, .bool c9, .bool c10] 95 (0, 0))).alloc (.cells #[.int .i64 a0, .int .i64 a1, .int .i64 a2] 96 (0, 0))).heap[w.heap.size]? = some (.cells #[.int .i64 c0, .int .i64 c1, .float .f64 c2, .int .i64 c3, .int .i64 c4, .int .i64 c5, .int .i64 c6, .int .i64 c7, .int .i64 c8, .bool c9, .bool c10] 95 (0, 0))) := Lib.hid (blk_alloc (blk_new w _) _)
  have Ka0 : Hid (((w.alloc (.cells #[.int .i64 c0, .int .i64 c1, .float .f64 c2, .int .i64 c3, .int .i64 c4, .int .i64 c5, .int .i64 c6, .int .i64 c7, .int .i64 c8, .bool c9, .bool c10] 95 (0, 0))).alloc (.cells #[.int .i64 a0, .int .i64 a1, .int .i64 a2] 96 (0, 0))).heap[w.heap.size + 1]? = some (.cells #[.int .i64 a0, .int .i64 a1, .int .i64 a2] 96 (0, 0))) := Lib.hid (new_at _ _ _ (by simp))
  have BB0 : Hid (Below w.heap.size w ((w.alloc (.cells #[.int .i64 c0, .int .i64 c1, .float .f64 c2, .int .i64 c3, .int .i64 c4, .int .i64 c5, .int .i64 c6, .int .i64 c7, .int .i64 c8, .bool c9, .bool c10] 95 (0, 0))).alloc (.cells #[.int .i64 a0, .int .i64 a1, .int .i64 a2] 96 (0, 0)))) := Lib.hid (((Below.refl w.heap.size w).alloc (Nat.le_refl _) _).alloc (by simp) _)
  revert Kc0 Ka0 BB0
  generalize ((w.alloc (.cells #[.int .i64 c0, .int .i64 c1, .float .f64 c2, .int .i64 c3, .int .i64 c4, .int .i64 c5, .int .i64 c6, .int .i64 c7, .int .i64 c8, .bool c9, .bool c10] 95 (0, 0))).alloc (.cells #[.int .i64 a0, .int .i64 a1, .int .i64 a2] 96 (0, 0))) = w0
  intro Kc0 Ka0 BB0
  refine wp_loop_rounds 4 ?_
  rw [rounds_succ]
  go_wp2
  rw [rounds_succ]
  go_wp2
  rw [rounds_succ]
  go_wp2
  rw [rounds_succ]
  go_wp2_with ((with_reducible refine gate_dst (N := 24) rfl ?_); refine wpList_load_row rfl 95 (.tmp 3) rfl (w.heap.size) rfl 95 #[.int .i64 c0, .int .i64 c1, .float .f64 c2, .int .i64 c3, .int .i64 c4, .int .i64 c5, .int .i64 c6, .int .i64 c7, .int .i64 c8, .bool c9, .bool c10] (0, 0) _ Kc0.out Try.underlying95 rfl info_c ?_)
  (with_reducible refine (HR.out _).mono ?_); rintro e w1 ⟨rfl, hb⟩
  have BB1 : Hid (Below w.heap.size w w1) := Lib.hid (Below.trans BB0.out (hb.mono BB0.out.size))
  clear hb
  go_wp2_with ((with_reducible refine (HL.out _).mono ?_); rintro e w2 ⟨rfl, hb⟩)
  go_ret
  exact ⟨rfl, Below.trans BB1.out (hb.mono BB1.out.size)⟩
set_option maxRecDepth 100000 in
set_option maxHeartbeats 2000000 in
theorem late1 (c0 c1 : Int) (c2 : Nat) (c3 c4 c5 c6 c7 c8 : Int) (c9 c10 : Bool) (a0 a1 a2 late rv : Int) (w : World) (l0 : decide (a0 < 0) = false) (m0 : decide (1099511627776 < a0) = false) (l1 : decide (a1 < 0) = false) (m1 : decide (1099511627776 < a1) = false) (l2 : decide (a2 < 0) = false) (m2 : decide (1099511627776 < a2) = false) (hr : ∀ w, Calls Try.prog 88 #[.agg #[.int .i64 c0, .int .i64 c1, .float .f64 c2, .int .i64 c3, .int .i64 c4, .int .i64 c5, .int .i64 c6, .int .i64 c7, .int .i64 c8, .bool c9, .bool c10]] w fun e w' => e = .returned (.int .i64 0) ∧ Below w.heap.size w w') (l3 : decide (late < 0) = false) (l4 : decide (1099511627776 < late) = true) (hl : ∀ w, Calls Try.prog 87 #[] w fun e w' => e = .returned (.bool true) ∧ Below w.heap.size w w') :
    Calls Try.prog 13 #[.agg #[.int .i64 c0, .int .i64 c1, .float .f64 c2, .int .i64 c3, .int .i64 c4, .int .i64 c5, .int .i64 c6, .int .i64 c7, .int .i64 c8, .bool c9, .bool c10], .agg #[.int .i64 a0, .int .i64 a1, .int .i64 a2], .int .i64 late] w fun e w' => e = .returned (.bool true) ∧ Below w.heap.size w w' := by
  have HL := Lib.hid hl; have HR := Lib.hid hr; clear hl hr
  go_enter Try.func13, Try.ntmps13
  have x0 : ∀ w, Sem.run Try.prog (Instr.index 96 (.agg #[.int .i64 a0, .int .i64 a1, .int .i64 a2]) (.int .i64 0)) w = .ok (.int .i64 a0) w := fun _ => by kernel_rfl
  have x1 : ∀ w, Sem.run Try.prog (Instr.index 96 (.agg #[.int .i64 a0, .int .i64 a1, .int .i64 a2]) (.int .i64 1)) w = .ok (.int .i64 a1) w := fun _ => by kernel_rfl
  have x2 : ∀ w, Sem.run Try.prog (Instr.index 96 (.agg #[.int .i64 a0, .int .i64 a1, .int .i64 a2]) (.int .i64 2)) w = .ok (.int .i64 a2) w := fun _ => by kernel_rfl
  go_wp2
  have Kc0 : Hid (((w.alloc (.cells #[.int .i64 c0, .int .i64 c1, .float .f64 c2, .int .i64 c3, .int .i64 c4, .int .i64 c5, .int .i64 c6, .int .i64 c7, .int .i64 c8, .bool c9, .bool c10] 95 (0, 0))).alloc (.cells #[.int .i64 a0, .int .i64 a1, .int .i64 a2] 96 (0, 0))).heap[w.heap.size]? = some (.cells #[.int .i64 c0, .int .i64 c1, .float .f64 c2, .int .i64 c3, .int .i64 c4, .int .i64 c5, .int .i64 c6, .int .i64 c7, .int .i64 c8, .bool c9, .bool c10] 95 (0, 0))) := Lib.hid (blk_alloc (blk_new w _) _)
  have Ka0 : Hid (((w.alloc (.cells #[.int .i64 c0, .int .i64 c1, .float .f64 c2, .int .i64 c3, .int .i64 c4, .int .i64 c5, .int .i64 c6, .int .i64 c7, .int .i64 c8, .bool c9, .bool c10] 95 (0, 0))).alloc (.cells #[.int .i64 a0, .int .i64 a1, .int .i64 a2] 96 (0, 0))).heap[w.heap.size + 1]? = some (.cells #[.int .i64 a0, .int .i64 a1, .int .i64 a2] 96 (0, 0))) := Lib.hid (new_at _ _ _ (by simp))
  have BB0 : Hid (Below w.heap.size w ((w.alloc (.cells #[.int .i64 c0, .int .i64 c1, .float .f64 c2, .int .i64 c3, .int .i64 c4, .int .i64 c5, .int .i64 c6, .int .i64 c7, .int .i64 c8, .bool c9, .bool c10] 95 (0, 0))).alloc (.cells #[.int .i64 a0, .int .i64 a1, .int .i64 a2] 96 (0, 0)))) := Lib.hid (((Below.refl w.heap.size w).alloc (Nat.le_refl _) _).alloc (by simp) _)
  revert Kc0 Ka0 BB0
  generalize ((w.alloc (.cells #[.int .i64 c0, .int .i64 c1, .float .f64 c2, .int .i64 c3, .int .i64 c4, .int .i64 c5, .int .i64 c6, .int .i64 c7, .int .i64 c8, .bool c9, .bool c10] 95 (0, 0))).alloc (.cells #[.int .i64 a0, .int .i64 a1, .int .i64 a2] 96 (0, 0))) = w0
  intro Kc0 Ka0 BB0
  refine wp_loop_rounds 4 ?_
  rw [rounds_succ]
  go_wp2
  rw [rounds_succ]
  go_wp2
  rw [rounds_succ]
  go_wp2
  rw [rounds_succ]
  go_wp2_with ((with_reducible refine gate_dst (N := 24) rfl ?_); refine wpList_load_row rfl 95 (.tmp 3) rfl (w.heap.size) rfl 95 #[.int .i64 c0, .int .i64 c1, .float .f64 c2, .int .i64 c3, .int .i64 c4, .int .i64 c5, .int .i64 c6, .int .i64 c7, .int .i64 c8, .bool c9, .bool c10] (0, 0) _ Kc0.out Try.underlying95 rfl info_c ?_)
  (with_reducible refine (HR.out _).mono ?_); rintro e w1 ⟨rfl, hb⟩
  have BB1 : Hid (Below w.heap.size w w1) := Lib.hid (Below.trans BB0.out (hb.mono BB0.out.size))
  clear hb
  go_wp2_with ((with_reducible refine (HL.out _).mono ?_); rintro e w2 ⟨rfl, hb⟩)
  go_ret
  exact ⟨rfl, Below.trans BB1.out (hb.mono BB1.out.size)⟩
def rgnIdleWaits.T9 : Bool × List (List Nat × List Nat) := (true, [([], []), ([], []), ([1], [1]), ([0, 2], [0, 2]), ([], []), ([], []), ([5], [5]), ([], []), ([7], [7]), ([], []), ([9], [9]), ([8, 10], [8, 10]), ([3, 4, 6, 11, 3], [3, 4, 6, 11]), ([], []), ([13, 12, 12, 0, 1, 2, 3, 4, 5, 6, 7, 8, 9, 10, 11, 12, 13], [12, 13])])
def rgnIdleWaits.B9 : List Nat := [0, 0, 2, 7, 0, 0, 32, 0, 128, 0, 512, 1920, 4095, 0, 16383]
theorem rgnIdleWaits.tab9 : rtab .any (opsOf Try.f13 9) = rgnIdleWaits.T9 := by kernel_rfl
theorem rgnIdleWaits.bits9 : waitsOk rgnIdleWaits.T9.2 rgnIdleWaits.B9 = true := by kernel_rfl
def rgnIdleWaits.T10 : Bool × List (List Nat × List Nat) := (true, [([], []), ([0], [0]), ([], []), ([2], [2]), ([1, 3], [1, 3]), ([4], [4]), ([5], [5]), ([6, 5], [5, 6]), ([5], [5]), ([8, 5], [5, 8]), ([7, 9, 5], [5, 7, 9]), ([5, 10], [5, 10]), ([11, 5], [11]), ([12], [12]), ([13, 12], [12, 13]), ([14, 12], [12, 14]), ([12], [12]), ([12], [12]), ([17, 12], [12, 17]), ([16, 18, 12, 12], [12, 16, 18]), ([15, 19, 12], [12, 15, 19]), ([20, 19, 12], [12, 20]), ([21], [21]), ([22, 21], [21, 22]), ([23, 21], [21, 23]), ([21, 24, 12], [12, 21, 24]), ([12, 25], [12, 25]), ([26, 21], [26]), ([27], [27]), ([28, 27], [27, 28]), ([29, 27], [27, 29]), ([30, 27, 27], [27, 30]), ([31], [31]), ([32, 31], [31, 32]), ([33, 31], [31, 33]), ([31, 34, 27], [27, 31, 34]), ([27, 35], [27, 35])])
def rgnIdleWaits.B10 : List Nat := [0, 1, 0, 4, 15, 31, 63, 127, 63, 319, 1023, 2047, 4095, 8191, 16383, 32767, 8191, 8191, 139263, 466943, 1048575, 2097151, 4194303, 8388607, 16777215, 33554431, 67108863, 134217727, 268435455, 536870911, 1073741823, 2147483647, 4294967295, 8589934591, 17179869183, 34359738367, 68719476735]
theorem rgnIdleWaits.tab10 : rtab .any (opsOf Try.f13 10) = rgnIdleWaits.T10 := by kernel_rfl
theorem rgnIdleWaits.bits10 : waitsOk rgnIdleWaits.T10.2 rgnIdleWaits.B10 = true := by kernel_rfl
set_option maxRecDepth 100000 in
set_option maxHeartbeats 8000000 in
theorem way_hi (c0 c1 : Int) (c2 : Nat) (c3 c4 c5 c6 c7 c8 : Int) (c9 c10 : Bool) (a0 a1 a2 late nw n0 n1 n2 q0 q1 : Int) (w : World) (l0 : decide (a0 < 0) = false) (m0 : decide (1099511627776 < a0) = false) (l1 : decide (a1 < 0) = false) (m1 : decide (1099511627776 < a1) = false) (l2 : decide (a2 < 0) = false) (m2 : decide (1099511627776 < a2) = false) (hr : ∀ w, Calls Try.prog 88 #[.agg #[.int .i64 c0, .int .i64 c1, .float .f64 c2, .int .i64 c3, .int .i64 c4, .int .i64 c5, .int .i64 c6, .int .i64 c7, .int .i64 c8, .bool c9, .bool c10]] w fun e w' => e = .returned (.int .i64 0) ∧ Below w.heap.size w w') (l3 : decide (late < 0) = false) (l4 : decide (1099511627776 < late) = false) (hl : ∀ w, Calls Try.prog 87 #[] w fun e w' => e = .returned (.bool true) ∧ Below w.heap.size w w')
    (hn : ∀ w, Calls Try.prog 90 #[.agg #[.int .i64 c0, .int .i64 c1, .float .f64 c2, .int .i64 c3, .int .i64 c4, .int .i64 c5, .int .i64 c6, .int .i64 c7, .int .i64 c8, .bool c9, .bool c10], .int .i64 a0] w fun e w' => e = .returned (.agg #[.int .i64 n0, .int .i64 n1, .int .i64 n2]) ∧ Below w.heap.size w w')
    (hnw : wrap64 (a0 + a2) = nw) (hnx : IntKind.i64.wrap (a0 + a2) = nw)
    (hs : ∀ w, Calls Try.prog 89 #[.agg #[.int .i64 n0, .int .i64 n1, .int .i64 n2], .agg #[.int .i64 c0, .int .i64 c1, .float .f64 c2, .int .i64 c3, .int .i64 c4, .int .i64 c5, .int .i64 c6, .int .i64 c7, .int .i64 c8, .bool c9, .bool c10], .int .i64 a1, .int .i64 nw] w fun e w' => e = .returned (.agg #[.int .i64 q0, .int .i64 q1, .int .i64 0]) ∧ Below w.heap.size w w')
    (ho : ∀ w, Calls Try.prog 91 #[.agg #[.int .i64 q0, .int .i64 q1, .int .i64 0], .int .i64 q0] w fun e w' => e = .returned (.bool false) ∧ Below w.heap.size w w')
    (v1 : decide (q1 < c7) = false) (v2 : decide (c8 < q1) = false) (v3 : decide (q1 < 0) = false) (v4 : decide (0 ≤ q1) = true) :
    Calls Try.prog 13 #[.agg #[.int .i64 c0, .int .i64 c1, .float .f64 c2, .int .i64 c3, .int .i64 c4, .int .i64 c5, .int .i64 c6, .int .i64 c7, .int .i64 c8, .bool c9, .bool c10], .agg #[.int .i64 a0, .int .i64 a1, .int .i64 a2], .int .i64 late] w fun e w' => e = .returned (.bool true) ∧ Below w.heap.size w w' := by
  have HL := Lib.hid hl; have HR := Lib.hid hr; have HN := Lib.hid hn; have HS := Lib.hid hs; have HO := Lib.hid ho; have HW := Lib.hid hnw; have HX := Lib.hid hnx; clear hl hr hn hs ho hnw hnx
  go_enter Try.func13, Try.ntmps13
  have x0 : ∀ w, Sem.run Try.prog (Instr.index 96 (.agg #[.int .i64 a0, .int .i64 a1, .int .i64 a2]) (.int .i64 0)) w = .ok (.int .i64 a0) w := fun _ => by kernel_rfl
  have x1 : ∀ w, Sem.run Try.prog (Instr.index 96 (.agg #[.int .i64 a0, .int .i64 a1, .int .i64 a2]) (.int .i64 1)) w = .ok (.int .i64 a1) w := fun _ => by kernel_rfl
  have x2 : ∀ w, Sem.run Try.prog (Instr.index 96 (.agg #[.int .i64 a0, .int .i64 a1, .int .i64 a2]) (.int .i64 2)) w = .ok (.int .i64 a2) w := fun _ => by kernel_rfl
  go_wp2
  have Kc0 : Hid (((w.alloc (.cells #[.int .i64 c0, .int .i64 c1, .float .f64 c2, .int .i64 c3, .int .i64 c4, .int .i64 c5, .int .i64 c6, .int .i64 c7, .int .i64 c8, .bool c9, .bool c10] 95 (0, 0))).alloc (.cells #[.int .i64 a0, .int .i64 a1, .int .i64 a2] 96 (0, 0))).heap[w.heap.size]? = some (.cells #[.int .i64 c0, .int .i64 c1, .float .f64 c2, .int .i64 c3, .int .i64 c4, .int .i64 c5, .int .i64 c6, .int .i64 c7, .int .i64 c8, .bool c9, .bool c10] 95 (0, 0))) := Lib.hid (blk_alloc (blk_new w _) _)
  have Ka0 : Hid (((w.alloc (.cells #[.int .i64 c0, .int .i64 c1, .float .f64 c2, .int .i64 c3, .int .i64 c4, .int .i64 c5, .int .i64 c6, .int .i64 c7, .int .i64 c8, .bool c9, .bool c10] 95 (0, 0))).alloc (.cells #[.int .i64 a0, .int .i64 a1, .int .i64 a2] 96 (0, 0))).heap[w.heap.size + 1]? = some (.cells #[.int .i64 a0, .int .i64 a1, .int .i64 a2] 96 (0, 0))) := Lib.hid (new_at _ _ _ (by simp))
  have BB0 : Hid (Below w.heap.size w ((w.alloc (.cells #[.int .i64 c0, .int .i64 c1, .float .f64 c2, .int .i64 c3, .int .i64 c4, .int .i64 c5, .int .i64 c6, .int .i64 c7, .int .i64 c8, .bool c9, .bool c10] 95 (0, 0))).alloc (.cells #[.int .i64 a0, .int .i64 a1, .int .i64 a2] 96 (0, 0)))) := Lib.hid (((Below.refl w.heap.size w).alloc (Nat.le_refl _) _).alloc (by simp) _)
  revert Kc0 Ka0 BB0
  generalize ((w.alloc (.cells #[.int .i64 c0, .int .i64 c1, .float .f64 c2, .int .i64 c3, .int .i64 c4, .int .i64 c5, .int .i64 c6, .int .i64 c7, .int .i64 c8, .bool c9, .bool c10] 95 (0, 0))).alloc (.cells #[.int .i64 a0, .int .i64 a1, .int .i64 a2] 96 (0, 0))) = w0
  intro Kc0 Ka0 BB0
  refine wp_loop_rounds 4 ?_
  rw [rounds_succ]
  go_wp2
  rw [rounds_succ]
  go_wp2
  rw [rounds_succ]
  go_wp2
  rw [rounds_succ]
  go_wp2_with ((with_reducible refine gate_dst (N := 24) rfl ?_); refine wpList_load_row rfl 95 (.tmp 3) rfl (w.heap.size) rfl 95 #[.int .i64 c0, .int .i64 c1, .float .f64 c2, .int .i64 c3, .int .i64 c4, .int .i64 c5, .int .i64 c6, .int .i64 c7, .int .i64 c8, .bool c9, .bool c10] (0, 0) _ Kc0.out Try.underlying95 rfl info_c ?_)
  (with_reducible refine (HR.out _).mono ?_); rintro e w1 ⟨rfl, hb⟩
  have Kc1 := Lib.hid (blk_below Kc0.out hb); have Ka1 := Lib.hid (blk_below Ka0.out hb)
  have BB1 : Hid (Below w.heap.size w w1) := Lib.hid (Below.trans BB0.out (hb.mono BB0.out.size))
  clear hb Kc0 Ka0 BB0 x0 x1 x2
  have Kc0 := Kc1; have Ka0 := Ka1; have BB0 := BB1; clear Kc1 Ka1 BB1
  go_wp2_with fail
  have hnw := HW.out; have hnx := HX.out
  refine start_ (n := 15) (S := fun w' => w'.heap[w.heap.size]? = some (.cells #[.int .i64 c0, .int .i64 c1, .float .f64 c2, .int .i64 c3, .int .i64 c4, .int .i64 c5, .int .i64 c6, .int .i64 c7, .int .i64 c8, .bool c9, .bool c10] 95 (0, 0)) ∧ w'.heap[w.heap.size + 1]? = some (.cells #[.int .i64 a0, .int .i64 a1, .int .i64 a2] 96 (0, 0))) (ds := [14]) #[false, false, false, false, false, false, false, false, false, false, false, false, false, false, false] (by kernel_rfl) rfl rfl ⟨Kc0.out, Ka0.out⟩ (fun hHeld => ?_)
  refine with_tabW rgnIdleWaits.tab9 rgnIdleWaits.bits9 (fun HT_ HW_ => ?_)
  have nb_ := Lib.hid (below_drew1 BB0.out); clear BB0; have BB0 := nb_; clear nb_
  have n0_ := Lib.hid (blk_drew Kc0.out); have n1_ := Lib.hid (blk_drew Ka0.out); clear Kc0 Ka0; have Kc0 := n0_; have Ka0 := n1_; clear n0_ n1_
  revert Kc0 Ka0 BB0 hHeld
  generalize w1.drew = wd
  intro hHeld BB0 Kc0 Ka0
  refine pure_ (i := 1) (N := some 37) (v := ?_) (a' := ?_) #[false, true, false, false, false, false, false, false, false, false, false, false, false, false, false] rfl rfl (any_of HT_.out (by kernel_rfl)) (fun _ _ _ h => h) (Or.inl ⟨by rfl, ?_⟩) ?_ ?_
  rotate_left
  · intro w'
    go_simp
    with_reducible rfl
  rotate_left
  · simp only [Act.put, List.setIfInBounds_toArray, List.set_cons_zero, List.set_cons_succ, i64_w, i32_w]
    rfl
  refine pure_ (i := 5) (N := some 41) (v := ?_) (a' := ?_) #[false, true, false, false, false, true, false, false, false, false, false, false, false, false, false] rfl rfl (any_of HT_.out (by kernel_rfl)) (fun _ _ _ h => h) (Or.inl ⟨by rfl, ?_⟩) ?_ ?_
  rotate_left
  · intro w'
    go_simp
    with_reducible rfl
  rotate_left
  · simp only [Act.put, List.setIfInBounds_toArray, List.set_cons_zero, List.set_cons_succ, i64_w, i32_w]
    rfl
  refine pure_ (i := 7) (N := some 43) (v := ?_) (a' := ?_) #[false, true, false, false, false, true, false, true, false, false, false, false, false, false, false] rfl rfl (any_of HT_.out (by kernel_rfl)) (fun _ _ _ h => h) (Or.inl ⟨by rfl, ?_⟩) ?_ ?_
  rotate_left
  · intro w'
    go_simp
    with_reducible rfl
  rotate_left
  · simp only [Act.put, List.setIfInBounds_toArray, List.set_cons_zero, List.set_cons_succ, i64_w, i32_w]
    rfl
  refine pure_ (i := 9) (N := some 45) (v := ?_) (a' := ?_) #[false, true, false, false, false, true, false, true, false, true, false, false, false, false, false] rfl rfl (any_of HT_.out (by kernel_rfl)) (fun _ _ _ h => h) (Or.inl ⟨by rfl, ?_⟩) ?_ ?_
  rotate_left
  · intro w'
    go_simp
    with_reducible rfl
  rotate_left
  · simp only [Act.put, List.setIfInBounds_toArray, List.set_cons_zero, List.set_cons_succ, i64_w, i32_w]
    rfl
  refine take_ (i := 0) (N := some 36) (v := ?_) (a' := ?_) #[true, true, false, false, false, true, false, true, false, true, false, false, false, false, false] rfl rfl (take_ofW HT_.out HW_.out (by kernel_rfl)) (fun _ _ _ h => h) (Or.inl ⟨by rfl, ?_⟩) hHeld ?_ ?_
  rotate_left
  · rintro w' ⟨s0, s1⟩
    exact (ldrow (P := Try.prog) 95 _ _ Try.underlying95 rfl (by exact info_c) _ _ (.tmp 3) _ rfl (by rfl) w' s0).trans (by with_reducible rfl)
  rotate_left
  · simp only [Act.put, List.setIfInBounds_toArray, List.set_cons_zero, List.set_cons_succ, i64_w, i32_w]
    rfl
  refine take_ (i := 2) (N := some 38) (v := ?_) (a' := ?_) #[true, true, true, false, false, true, false, true, false, true, false, false, false, false, false] rfl rfl (take_ofW HT_.out HW_.out (by kernel_rfl)) (fun _ _ _ h => h) (Or.inl ⟨by rfl, ?_⟩) hHeld ?_ ?_
  rotate_left
  · rintro w' ⟨s0, s1⟩
    have c_ : w'.cell? ⟨w.heap.size + 1, 0, none⟩ = some (.int .i64 a0) := (blk_cell s1 0).trans rfl
    go_simp
    with_reducible rfl
  rotate_left
  · simp only [Act.put, List.setIfInBounds_toArray, List.set_cons_zero, List.set_cons_succ, i64_w, i32_w]
    rfl
  refine take_ (i := 4) (N := some 40) (v := ?_) (a' := ?_) #[true, true, true, false, true, true, false, true, false, true, false, false, false, false, false] rfl rfl (take_ofW HT_.out HW_.out (by kernel_rfl)) (fun _ _ _ h => h) (Or.inl ⟨by rfl, ?_⟩) hHeld ?_ ?_
  rotate_left
  · rintro w' ⟨s0, s1⟩
    exact (ldrow (P := Try.prog) 95 _ _ Try.underlying95 rfl (by exact info_c) _ _ (.tmp 3) _ rfl (by rfl) w' s0).trans (by with_reducible rfl)
  rotate_left
  · simp only [Act.put, List.setIfInBounds_toArray, List.set_cons_zero, List.set_cons_succ, i64_w, i32_w]
    rfl
  refine take_ (i := 6) (N := some 42) (v := ?_) (a' := ?_) #[true, true, true, false, true, true, true, true, false, true, false, false, false, false, false] rfl rfl (take_ofW HT_.out HW_.out (by kernel_rfl)) (fun _ _ _ h => h) (Or.inl ⟨by rfl, ?_⟩) hHeld ?_ ?_
  rotate_left
  · rintro w' ⟨s0, s1⟩
    have c_ : w'.cell? ⟨w.heap.size + 1, 1, none⟩ = some (.int .i64 a1) := (blk_cell s1 1).trans rfl
    go_simp
    with_reducible rfl
  rotate_left
  · simp only [Act.put, List.setIfInBounds_toArray, List.set_cons_zero, List.set_cons_succ, i64_w, i32_w]
    rfl
  refine take_ (i := 8) (N := some 44) (v := ?_) (a' := ?_) #[true, true, true, false, true, true, true, true, true, true, false, false, false, false, false] rfl rfl (take_ofW HT_.out HW_.out (by kernel_rfl)) (fun _ _ _ h => h) (Or.inl ⟨by rfl, ?_⟩) hHeld ?_ ?_
  rotate_left
  · rintro w' ⟨s0, s1⟩
    have c_ : w'.cell? ⟨w.heap.size + 1, 0, none⟩ = some (.int .i64 a0) := (blk_cell s1 0).trans rfl
    go_simp
    with_reducible rfl
  rotate_left
  · simp only [Act.put, List.setIfInBounds_toArray, List.set_cons_zero, List.set_cons_succ, i64_w, i32_w]
    rfl
  refine take_ (i := 10) (N := some 46) (v := ?_) (a' := ?_) #[true, true, true, false, true, true, true, true, true, true, true, false, false, false, false] rfl rfl (take_ofW HT_.out HW_.out (by kernel_rfl)) (fun _ _ _ h => h) (Or.inl ⟨by rfl, ?_⟩) hHeld ?_ ?_
  rotate_left
  · rintro w' ⟨s0, s1⟩
    have c_ : w'.cell? ⟨w.heap.size + 1, 2, none⟩ = some (.int .i64 a2) := (blk_cell s1 2).trans rfl
    go_simp
    with_reducible rfl
  rotate_left
  · simp only [Act.put, List.setIfInBounds_toArray, List.set_cons_zero, List.set_cons_succ, i64_w, i32_w]
    rfl
  refine pure_ (i := 11) (N := some 47) (v := ?_) (a' := ?_) #[true, true, true, false, true, true, true, true, true, true, true, true, false, false, false] rfl rfl (any_of HT_.out (by kernel_rfl)) (fun _ _ _ h => h) (Or.inl ⟨by rfl, ?_⟩) ?_ ?_
  rotate_left
  · intro w'
    go_simp
    with_reducible rfl
  rotate_left
  · simp only [Act.put, List.setIfInBounds_toArray, List.set_cons_zero, List.set_cons_succ, i64_w, i32_w]
    rfl
  refine join_ (σ := Nat) 1 #[true, true, true, true, true, true, true, true, true, true, true, true, true, true, false] (fun s => [(39, .agg #[.int .i64 n0, .int .i64 n1, .int .i64 n2]), (48, .agg #[.int .i64 q0, .int .i64 q1, .int .i64 0]), (9, .pointer (some ⟨s, 0, none⟩))]) (fun s w' => w'.heap[w.heap.size]? = some (.cells #[.int .i64 c0, .int .i64 c1, .float .f64 c2, .int .i64 c3, .int .i64 c4, .int .i64 c5, .int .i64 c6, .int .i64 c7, .int .i64 c8, .bool c9, .bool c10] 95 (0, 0)) ∧ w'.heap[w.heap.size + 1]? = some (.cells #[.int .i64 a0, .int .i64 a1, .int .i64 a2] 96 (0, 0)) ∧ w'.heap[s]? = some (.cells #[.int .i64 0, .int .i64 0, .int .i64 0] 99 (0, 0)) ∧ w.heap.size < s ∧ w.heap.size + 1 < s ∧ w.heap.size ≤ s ∧ Below w.heap.size w w') ?_ ?_
  rotate_left
  · intro hCont
    refine two_ (i := 3) (j := 13) (Ni := some 39) (Nj := some 9) #[true, true, true, true, true, true, true, true, true, true, true, true, false, false, false] #[true, true, true, false, true, true, true, true, true, true, true, true, false, true, false] rfl rfl rfl rfl (two_of HT_.out (by kernel_rfl)) (by decide) (by decide) (fun K hK => ?_) (fun K hK => ?_)
    · skip
      refine goes_ Try.func90 (by kernel_rfl) rfl #[.agg #[.int .i64 c0, .int .i64 c1, .float .f64 c2, .int .i64 c3, .int .i64 c4, .int .i64 c5, .int .i64 c6, .int .i64 c7, .int .i64 c8, .bool c9, .bool c10], .int .i64 a0] (by rfl) rfl rfl (by simp only [List.map_toArray, List.map_cons, List.map_nil]; rfl) ?_
      with_reducible refine (HN.out _).mono ?_
      rintro e u3 ⟨rfl, hb⟩
      have Kc1 : Hid (u3.heap[w.heap.size]? = some (.cells #[.int .i64 c0, .int .i64 c1, .float .f64 c2, .int .i64 c3, .int .i64 c4, .int .i64 c5, .int .i64 c6, .int .i64 c7, .int .i64 c8, .bool c9, .bool c10] 95 (0, 0))) := Lib.hid (blk_below (by exact Kc0.out) hb)
      have Ka1 : Hid (u3.heap[w.heap.size + 1]? = some (.cells #[.int .i64 a0, .int .i64 a1, .int .i64 a2] 96 (0, 0))) := Lib.hid (blk_below (by exact Ka0.out) hb)
      have BB1 : Hid (Below w.heap.size w u3) := Lib.hid (Below.trans (by exact BB0.out) (hb.mono (by have := BB0.out.size; simpa using this)))
      clear hb
      refine ⟨_, rfl, ?_⟩
      refine hK.out _ _ ⟨Kc1.out, Ka1.out⟩ (fun hHeld => ?_)
      clear hK K
      refine norm_ (a' := ?_) ?_ ?_
      rotate_left
      · show Act.put _ (some 39) _ = _
        simp only [Act.put, List.setIfInBounds_toArray, List.set_cons_zero, List.set_cons_succ, i64_w, i32_w]
        rfl
      refine two_ (i := 12) (j := 13) (Ni := some 48) (Nj := some 9) #[true, true, true, true, true, true, true, true, true, true, true, true, true, false, false] #[true, true, true, true, true, true, true, true, true, true, true, true, false, true, false] rfl rfl rfl rfl (two_of HT_.out (by kernel_rfl)) (by decide) (by decide) (fun K hK => ?_) (fun K hK => ?_)
      · skip
        refine goes_ Try.func89 (by kernel_rfl) rfl #[.agg #[.int .i64 n0, .int .i64 n1, .int .i64 n2], .agg #[.int .i64 c0, .int .i64 c1, .float .f64 c2, .int .i64 c3, .int .i64 c4, .int .i64 c5, .int .i64 c6, .int .i64 c7, .int .i64 c8, .bool c9, .bool c10], .int .i64 a1, .int .i64 nw] (by rfl) rfl rfl (by simp only [List.map_toArray, List.map_cons, List.map_nil]; rfl) ?_
        with_reducible refine (HS.out _).mono ?_
        rintro e u12 ⟨rfl, hb⟩
        have Kc2 : Hid (u12.heap[w.heap.size]? = some (.cells #[.int .i64 c0, .int .i64 c1, .float .f64 c2, .int .i64 c3, .int .i64 c4, .int .i64 c5, .int .i64 c6, .int .i64 c7, .int .i64 c8, .bool c9, .bool c10] 95 (0, 0))) := Lib.hid (blk_below (by exact Kc1.out) hb)
        have Ka2 : Hid (u12.heap[w.heap.size + 1]? = some (.cells #[.int .i64 a0, .int .i64 a1, .int .i64 a2] 96 (0, 0))) := Lib.hid (blk_below (by exact Ka1.out) hb)
        have BB2 : Hid (Below w.heap.size w u12) := Lib.hid (Below.trans (by exact BB1.out) (hb.mono (by have := BB1.out.size; simpa using this)))
        clear hb
        refine ⟨_, rfl, ?_⟩
        refine hK.out _ _ ⟨Kc2.out, Ka2.out⟩ (fun hHeld => ?_)
        clear hK K
        refine norm_ (a' := ?_) ?_ ?_
        rotate_left
        · show Act.put _ (some 48) _ = _
          simp only [Act.put, List.setIfInBounds_toArray, List.set_cons_zero, List.set_cons_succ, i64_w, i32_w]
          rfl
        refine one_ (i := 13) (N := some 9) #[true, true, true, true, true, true, true, true, true, true, true, true, true, true, false] rfl rfl (one_of HT_.out (by kernel_rfl)) (by decide) (fun K hK => ?_)
        refine value_ (w1 := ?_) (v := ?_) (by rfl) rfl ?_ ?_
        rotate_left 2
        · go_simp
          constructor
          · rfl
          · rfl
        have Kc3 : Hid ((u12.alloc (.cells #[.int .i64 0, .int .i64 0, .int .i64 0] 99 (0, 0))).heap[w.heap.size]? = some (.cells #[.int .i64 c0, .int .i64 c1, .float .f64 c2, .int .i64 c3, .int .i64 c4, .int .i64 c5, .int .i64 c6, .int .i64 c7, .int .i64 c8, .bool c9, .bool c10] 95 (0, 0))) := Lib.hid (blk_alloc (by exact Kc2.out) _)
        have Ka3 : Hid ((u12.alloc (.cells #[.int .i64 0, .int .i64 0, .int .i64 0] 99 (0, 0))).heap[w.heap.size + 1]? = some (.cells #[.int .i64 a0, .int .i64 a1, .int .i64 a2] 96 (0, 0))) := Lib.hid (blk_alloc (by exact Ka2.out) _)
        have Ks3 : Hid ((u12.alloc (.cells #[.int .i64 0, .int .i64 0, .int .i64 0] 99 (0, 0))).heap[u12.heap.size]? = some (.cells #[.int .i64 0, .int .i64 0, .int .i64 0] 99 (0, 0))) := Lib.hid (new_at _ _ _ (by simp))
        have BB3 : Hid (Below w.heap.size w (u12.alloc (.cells #[.int .i64 0, .int .i64 0, .int .i64 0] 99 (0, 0)))) := Lib.hid (Below.alloc (by exact BB2.out) BB2.out.size _)
        have Ls_c : Hid (w.heap.size < u12.heap.size) := Lib.hid (by have := blk_lt Kc2.out; simpa using this)
        have Ls_a : Hid (w.heap.size + 1 < u12.heap.size) := Lib.hid (by have := blk_lt Ka2.out; simpa using this)
        have Ls : Hid (w.heap.size ≤ u12.heap.size) := Lib.hid (by have := BB2.out.size; simpa using this)
        refine hK.out _ _ ⟨Kc3.out, Ka3.out⟩ (fun hHeld => ?_)
        clear hK K
        refine norm_ (a' := ?_) ?_ ?_
        rotate_left
        · show Act.put _ (some 9) _ = _
          simp only [Act.put, List.setIfInBounds_toArray, List.set_cons_zero, List.set_cons_succ, i64_w, i32_w]
          rfl
        exact norm_ (by simp only [putAll, Act.put, List.setIfInBounds_toArray, List.set_cons_zero, List.set_cons_succ]) (hCont u12.heap.size _ ⟨Kc3.out, Ka3.out, Ks3.out, Ls_c.out, Ls_a.out, Ls.out, BB3.out⟩)
      · skip
        refine value_ (w1 := ?_) (v := ?_) (by rfl) rfl ?_ ?_
        rotate_left 2
        · go_simp
          constructor
          · rfl
          · rfl
        have Kc2 : Hid ((u3.alloc (.cells #[.int .i64 0, .int .i64 0, .int .i64 0] 99 (0, 0))).heap[w.heap.size]? = some (.cells #[.int .i64 c0, .int .i64 c1, .float .f64 c2, .int .i64 c3, .int .i64 c4, .int .i64 c5, .int .i64 c6, .int .i64 c7, .int .i64 c8, .bool c9, .bool c10] 95 (0, 0))) := Lib.hid (blk_alloc (by exact Kc1.out) _)
        have Ka2 : Hid ((u3.alloc (.cells #[.int .i64 0, .int .i64 0, .int .i64 0] 99 (0, 0))).heap[w.heap.size + 1]? = some (.cells #[.int .i64 a0, .int .i64 a1, .int .i64 a2] 96 (0, 0))) := Lib.hid (blk_alloc (by exact Ka1.out) _)
        have Ks2 : Hid ((u3.alloc (.cells #[.int .i64 0, .int .i64 0, .int .i64 0] 99 (0, 0))).heap[u3.heap.size]? = some (.cells #[.int .i64 0, .int .i64 0, .int .i64 0] 99 (0, 0))) := Lib.hid (new_at _ _ _ (by simp))
        have BB2 : Hid (Below w.heap.size w (u3.alloc (.cells #[.int .i64 0, .int .i64 0, .int .i64 0] 99 (0, 0)))) := Lib.hid (Below.alloc (by exact BB1.out) BB1.out.size _)
        have Ls_c : Hid (w.heap.size < u3.heap.size) := Lib.hid (by have := blk_lt Kc1.out; simpa using this)
        have Ls_a : Hid (w.heap.size + 1 < u3.heap.size) := Lib.hid (by have := blk_lt Ka1.out; simpa using this)
        have Ls : Hid (w.heap.size ≤ u3.heap.size) := Lib.hid (by have := BB1.out.size; simpa using this)
        refine hK.out _ _ ⟨Kc2.out, Ka2.out⟩ (fun hHeld => ?_)
        clear hK K
        refine norm_ (a' := ?_) ?_ ?_
        rotate_left
        · show Act.put _ (some 9) _ = _
          simp only [Act.put, List.setIfInBounds_toArray, List.set_cons_zero, List.set_cons_succ, i64_w, i32_w]
          rfl
        refine one_ (i := 12) (N := some 48) #[true, true, true, true, true, true, true, true, true, true, true, true, true, true, false] rfl rfl (one_of HT_.out (by kernel_rfl)) (by decide) (fun K hK => ?_)
        refine goes_ Try.func89 (by kernel_rfl) rfl #[.agg #[.int .i64 n0, .int .i64 n1, .int .i64 n2], .agg #[.int .i64 c0, .int .i64 c1, .float .f64 c2, .int .i64 c3, .int .i64 c4, .int .i64 c5, .int .i64 c6, .int .i64 c7, .int .i64 c8, .bool c9, .bool c10], .int .i64 a1, .int .i64 nw] (by rfl) rfl rfl (by simp only [List.map_toArray, List.map_cons, List.map_nil]; rfl) ?_
        with_reducible refine (HS.out _).mono ?_
        rintro e u12 ⟨rfl, hb⟩
        have Kc3 : Hid (u12.heap[w.heap.size]? = some (.cells #[.int .i64 c0, .int .i64 c1, .float .f64 c2, .int .i64 c3, .int .i64 c4, .int .i64 c5, .int .i64 c6, .int .i64 c7, .int .i64 c8, .bool c9, .bool c10] 95 (0, 0))) := Lib.hid (blk_below (by exact Kc2.out) hb)
        have Ka3 : Hid (u12.heap[w.heap.size + 1]? = some (.cells #[.int .i64 a0, .int .i64 a1, .int .i64 a2] 96 (0, 0))) := Lib.hid (blk_below (by exact Ka2.out) hb)
        have Ks3 : Hid (u12.heap[u3.heap.size]? = some (.cells #[.int .i64 0, .int .i64 0, .int .i64 0] 99 (0, 0))) := Lib.hid (blk_below (by exact Ks2.out) hb)
        have BB3 : Hid (Below w.heap.size w u12) := Lib.hid (Below.trans (by exact BB2.out) (hb.mono (by have := BB2.out.size; simpa using this)))
        clear hb
        refine ⟨_, rfl, ?_⟩
        refine hK.out _ _ ⟨Kc3.out, Ka3.out⟩ (fun hHeld => ?_)
        clear hK K
        refine norm_ (a' := ?_) ?_ ?_
        rotate_left
        · show Act.put _ (some 48) _ = _
          simp only [Act.put, List.setIfInBounds_toArray, List.set_cons_zero, List.set_cons_succ, i64_w, i32_w]
          rfl
        exact norm_ (by simp only [putAll, Act.put, List.setIfInBounds_toArray, List.set_cons_zero, List.set_cons_succ]) (hCont u3.heap.size _ ⟨Kc3.out, Ka3.out, Ks3.out, Ls_c.out, Ls_a.out, Ls.out, BB3.out⟩)
    · skip
      refine value_ (w1 := ?_) (v := ?_) (by rfl) rfl ?_ ?_
      rotate_left 2
      · go_simp
        constructor
        · rfl
        · rfl
      have Kc1 : Hid ((wd.alloc (.cells #[.int .i64 0, .int .i64 0, .int .i64 0] 99 (0, 0))).heap[w.heap.size]? = some (.cells #[.int .i64 c0, .int .i64 c1, .float .f64 c2, .int .i64 c3, .int .i64 c4, .int .i64 c5, .int .i64 c6, .int .i64 c7, .int .i64 c8, .bool c9, .bool c10] 95 (0, 0))) := Lib.hid (blk_alloc (by exact Kc0.out) _)
      have Ka1 : Hid ((wd.alloc (.cells #[.int .i64 0, .int .i64 0, .int .i64 0] 99 (0, 0))).heap[w.heap.size + 1]? = some (.cells #[.int .i64 a0, .int .i64 a1, .int .i64 a2] 96 (0, 0))) := Lib.hid (blk_alloc (by exact Ka0.out) _)
      have Ks1 : Hid ((wd.alloc (.cells #[.int .i64 0, .int .i64 0, .int .i64 0] 99 (0, 0))).heap[wd.heap.size]? = some (.cells #[.int .i64 0, .int .i64 0, .int .i64 0] 99 (0, 0))) := Lib.hid (new_at _ _ _ (by simp))
      have BB1 : Hid (Below w.heap.size w (wd.alloc (.cells #[.int .i64 0, .int .i64 0, .int .i64 0] 99 (0, 0)))) := Lib.hid (Below.alloc (by exact BB0.out) BB0.out.size _)
      have Ls_c : Hid (w.heap.size < wd.heap.size) := Lib.hid (by have := blk_lt Kc0.out; simpa using this)
      have Ls_a : Hid (w.heap.size + 1 < wd.heap.size) := Lib.hid (by have := blk_lt Ka0.out; simpa using this)
      have Ls : Hid (w.heap.size ≤ wd.heap.size) := Lib.hid (by have := BB0.out.size; simpa using this)
      refine hK.out _ _ ⟨Kc1.out, Ka1.out⟩ (fun hHeld => ?_)
      clear hK K
      refine norm_ (a' := ?_) ?_ ?_
      rotate_left
      · show Act.put _ (some 9) _ = _
        simp only [Act.put, List.setIfInBounds_toArray, List.set_cons_zero, List.set_cons_succ, i64_w, i32_w]
        rfl
      refine one_ (i := 3) (N := some 39) #[true, true, true, true, true, true, true, true, true, true, true, true, false, true, false] rfl rfl (one_of HT_.out (by kernel_rfl)) (by decide) (fun K hK => ?_)
      refine goes_ Try.func90 (by kernel_rfl) rfl #[.agg #[.int .i64 c0, .int .i64 c1, .float .f64 c2, .int .i64 c3, .int .i64 c4, .int .i64 c5, .int .i64 c6, .int .i64 c7, .int .i64 c8, .bool c9, .bool c10], .int .i64 a0] (by rfl) rfl rfl (by simp only [List.map_toArray, List.map_cons, List.map_nil]; rfl) ?_
      with_reducible refine (HN.out _).mono ?_
      rintro e u3 ⟨rfl, hb⟩
      have Kc2 : Hid (u3.heap[w.heap.size]? = some (.cells #[.int .i64 c0, .int .i64 c1, .float .f64 c2, .int .i64 c3, .int .i64 c4, .int .i64 c5, .int .i64 c6, .int .i64 c7, .int .i64 c8, .bool c9, .bool c10] 95 (0, 0))) := Lib.hid (blk_below (by exact Kc1.out) hb)
      have Ka2 : Hid (u3.heap[w.heap.size + 1]? = some (.cells #[.int .i64 a0, .int .i64 a1, .int .i64 a2] 96 (0, 0))) := Lib.hid (blk_below (by exact Ka1.out) hb)
      have Ks2 : Hid (u3.heap[wd.heap.size]? = some (.cells #[.int .i64 0, .int .i64 0, .int .i64 0] 99 (0, 0))) := Lib.hid (blk_below (by exact Ks1.out) hb)
      have BB2 : Hid (Below w.heap.size w u3) := Lib.hid (Below.trans (by exact BB1.out) (hb.mono (by have := BB1.out.size; simpa using this)))
      clear hb
      refine ⟨_, rfl, ?_⟩
      refine hK.out _ _ ⟨Kc2.out, Ka2.out⟩ (fun hHeld => ?_)
      clear hK K
      refine norm_ (a' := ?_) ?_ ?_
      rotate_left
      · show Act.put _ (some 39) _ = _
        simp only [Act.put, List.setIfInBounds_toArray, List.set_cons_zero, List.set_cons_succ, i64_w, i32_w]
        rfl
      refine one_ (i := 12) (N := some 48) #[true, true, true, true, true, true, true, true, true, true, true, true, true, true, false] rfl rfl (one_of HT_.out (by kernel_rfl)) (by decide) (fun K hK => ?_)
      refine goes_ Try.func89 (by kernel_rfl) rfl #[.agg #[.int .i64 n0, .int .i64 n1, .int .i64 n2], .agg #[.int .i64 c0, .int .i64 c1, .float .f64 c2, .int .i64 c3, .int .i64 c4, .int .i64 c5, .int .i64 c6, .int .i64 c7, .int .i64 c8, .bool c9, .bool c10], .int .i64 a1, .int .i64 nw] (by rfl) rfl rfl (by simp only [List.map_toArray, List.map_cons, List.map_nil]; rfl) ?_
      with_reducible refine (HS.out _).mono ?_
      rintro e u12 ⟨rfl, hb⟩
      have Kc3 : Hid (u12.heap[w.heap.size]? = some (.cells #[.int .i64 c0, .int .i64 c1, .float .f64 c2, .int .i64 c3, .int .i64 c4, .int .i64 c5, .int .i64 c6, .int .i64 c7, .int .i64 c8, .bool c9, .bool c10] 95 (0, 0))) := Lib.hid (blk_below (by exact Kc2.out) hb)
      have Ka3 : Hid (u12.heap[w.heap.size + 1]? = some (.cells #[.int .i64 a0, .int .i64 a1, .int .i64 a2] 96 (0, 0))) := Lib.hid (blk_below (by exact Ka2.out) hb)
      have Ks3 : Hid (u12.heap[wd.heap.size]? = some (.cells #[.int .i64 0, .int .i64 0, .int .i64 0] 99 (0, 0))) := Lib.hid (blk_below (by exact Ks2.out) hb)
      have BB3 : Hid (Below w.heap.size w u12) := Lib.hid (Below.trans (by exact BB2.out) (hb.mono (by have := BB2.out.size; simpa using this)))
      clear hb
      refine ⟨_, rfl, ?_⟩
      refine hK.out _ _ ⟨Kc3.out, Ka3.out⟩ (fun hHeld => ?_)
      clear hK K
      refine norm_ (a' := ?_) ?_ ?_
      rotate_left
      · show Act.put _ (some 48) _ = _
        simp only [Act.put, List.setIfInBounds_toArray, List.set_cons_zero, List.set_cons_succ, i64_w, i32_w]
        rfl
      exact norm_ (by simp only [putAll, Act.put, List.setIfInBounds_toArray, List.set_cons_zero, List.set_cons_succ]) (hCont wd.heap.size _ ⟨Kc3.out, Ka3.out, Ks3.out, Ls_c.out, Ls_a.out, Ls.out, BB3.out⟩)
  rintro gs wj ⟨s0, s1, ks, ls_c, ls_a, ls, bj⟩
  have Ks := Lib.hid ks; have Ls_c := Lib.hid ls_c; have Ls_a := Lib.hid ls_a; have Ls := Lib.hid ls; have BJ := Lib.hid bj; have Kcj := Lib.hid s0; have Kaj := Lib.hid s1
  clear ks ls_c ls_a ls bj
  have hHeld : wj.heap[w.heap.size]? = some (.cells #[.int .i64 c0, .int .i64 c1, .float .f64 c2, .int .i64 c3, .int .i64 c4, .int .i64 c5, .int .i64 c6, .int .i64 c7, .int .i64 c8, .bool c9, .bool c10] 95 (0, 0)) ∧ wj.heap[w.heap.size + 1]? = some (.cells #[.int .i64 a0, .int .i64 a1, .int .i64 a2] 96 (0, 0)) := ⟨s0, s1⟩
  clear s0 s1
  refine norm_ (a' := ?_) ?_ ?_
  rotate_left
  · simp only [putAll, Act.put, List.setIfInBounds_toArray, List.set_cons_zero, List.set_cons_succ]
    rfl
  refine last_ (i := 14) (N := none) #[true, true, true, true, true, true, true, true, true, true, true, true, true, true, true] rfl rfl (one_of HT_.out (by kernel_rfl)) (by decide) (fun K hK => ?_)
  rw [if_pos (by rfl)]
  refine wp_store_row 99 (.tmp 9) (.tmp 48) rfl gs #[.int .i64 q0, .int .i64 q1, .int .i64 0] rfl rfl 99 _ Ks.out (by exact info_s) (by rfl) (by simp [Value.oneCell']) ?_
  refine hK.out _ _ ?_
  clear hK K
  refine done_ (done_of HT_.out (by kernel_rfl)) ?_
  clear hnw hnx
  have Kcz : Hid ((wj.setRow gs #[.int .i64 q0, .int .i64 q1, .int .i64 0]).heap[w.heap.size]? = some (.cells #[.int .i64 c0, .int .i64 c1, .float .f64 c2, .int .i64 c3, .int .i64 c4, .int .i64 c5, .int .i64 c6, .int .i64 c7, .int .i64 c8, .bool c9, .bool c10] 95 (0, 0))) := Lib.hid ((setRow_other _ gs _ _ (by have := Ls_c.out; omega)).trans Kcj.out)
  have Kaz : Hid ((wj.setRow gs #[.int .i64 q0, .int .i64 q1, .int .i64 0]).heap[w.heap.size + 1]? = some (.cells #[.int .i64 a0, .int .i64 a1, .int .i64 a2] 96 (0, 0))) := Lib.hid ((setRow_other _ gs _ _ (by have := Ls_a.out; omega)).trans Kaj.out)
  have Ksz : Hid ((wj.setRow gs #[.int .i64 q0, .int .i64 q1, .int .i64 0]).heap[gs]? = some (.cells #[.int .i64 q0, .int .i64 q1, .int .i64 0] 99 (0, 0))) := Lib.hid (setRow_heap _ gs _ _ 99 _ Ks.out)
  have BZ : Hid (Below w.heap.size w (wj.setRow gs #[.int .i64 q0, .int .i64 q1, .int .i64 0])) := Lib.hid (below_setRow BJ.out Ls.out _)
  have LC : Hid (w.heap.size < gs) := Lib.hid (by have := Ls_c.out; omega)
  have LA : Hid (w.heap.size + 1 < gs) := Lib.hid (by have := Ls_a.out; omega)
  clear BJ hHeld Kcj Kaj Ks Ls_c Ls_a Ls
  revert Kcz Kaz Ksz BZ
  generalize (wj.setRow gs #[.int .i64 q0, .int .i64 q1, .int .i64 0]) = wz
  intro Kc0 Ka0 Ks0 BB0
  try simp only [Act.put]
  go_wp2_with fail
  refine start_ (n := 37) (S := fun w' => w'.heap[w.heap.size]? = some (.cells #[.int .i64 c0, .int .i64 c1, .float .f64 c2, .int .i64 c3, .int .i64 c4, .int .i64 c5, .int .i64 c6, .int .i64 c7, .int .i64 c8, .bool c9, .bool c10] 95 (0, 0)) ∧ w'.heap[w.heap.size + 1]? = some (.cells #[.int .i64 a0, .int .i64 a1, .int .i64 a2] 96 (0, 0)) ∧ w'.heap[gs]? = some (.cells #[.int .i64 q0, .int .i64 q1, .int .i64 0] 99 (0, 0))) (ds := []) #[false, false, false, false, false, false, false, false, false, false, false, false, false, false, false, false, false, false, false, false, false, false, false, false, false, false, false, false, false, false, false, false, false, false, false, false, false] (by kernel_rfl) rfl rfl ⟨Kc0.out, Ka0.out, Ks0.out⟩ (fun hHeld => ?_)
  refine with_tabW rgnIdleWaits.tab10 rgnIdleWaits.bits10 (fun HT_ HW_ => ?_)
  have nb_ := Lib.hid (below_drew1 BB0.out); clear BB0; have BB0 := nb_; clear nb_
  have n0_ := Lib.hid (blk_drew Kc0.out); have n1_ := Lib.hid (blk_drew Ka0.out); have n2_ := Lib.hid (blk_drew Ks0.out); clear Kc0 Ka0 Ks0; have Kc0 := n0_; have Ka0 := n1_; have Ks0 := n2_; clear n0_ n1_ n2_
  revert Kc0 Ka0 Ks0 BB0 hHeld
  generalize wz.drew = wd
  intro hHeld BB0 Kc0 Ka0 Ks0
  refine pure_ (i := 0) (N := some 49) (v := ?_) (a' := ?_) #[true, false, false, false, false, false, false, false, false, false, false, false, false, false, false, false, false, false, false, false, false, false, false, false, false, false, false, false, false, false, false, false, false, false, false, false, false] rfl rfl (any_of HT_.out (by kernel_rfl)) (fun _ _ _ h => h) (Or.inl ⟨by rfl, ?_⟩) ?_ ?_
  rotate_left
  · intro w'
    go_simp
    with_reducible rfl
  rotate_left
  · simp only [Act.put, List.setIfInBounds_toArray, List.set_cons_zero, List.set_cons_succ, i64_w, i32_w]
    rfl
  refine pure_ (i := 2) (N := some 51) (v := ?_) (a' := ?_) #[true, false, true, false, false, false, false, false, false, false, false, false, false, false, false, false, false, false, false, false, false, false, false, false, false, false, false, false, false, false, false, false, false, false, false, false, false] rfl rfl (any_of HT_.out (by kernel_rfl)) (fun _ _ _ h => h) (Or.inl ⟨by rfl, ?_⟩) ?_ ?_
  rotate_left
  · intro w'
    go_simp
    with_reducible rfl
  rotate_left
  · simp only [Act.put, List.setIfInBounds_toArray, List.set_cons_zero, List.set_cons_succ, i64_w, i32_w]
    rfl
  refine take_ (i := 1) (N := some 50) (v := ?_) (a' := ?_) #[true, true, true, false, false, false, false, false, false, false, false, false, false, false, false, false, false, false, false, false, false, false, false, false, false, false, false, false, false, false, false, false, false, false, false, false, false] rfl rfl (take_ofW HT_.out HW_.out (by kernel_rfl)) (fun _ _ _ h => h) (Or.inl ⟨by rfl, ?_⟩) hHeld ?_ ?_
  rotate_left
  · rintro w' ⟨s0, s1, s2⟩
    have c_ : w'.cell? ⟨gs, 1, none⟩ = some (.int .i64 q1) := (blk_cell s2 1).trans rfl
    go_simp
    with_reducible rfl
  rotate_left
  · simp only [Act.put, List.setIfInBounds_toArray, List.set_cons_zero, List.set_cons_succ, i64_w, i32_w]
    rfl
  refine take_ (i := 3) (N := some 52) (v := ?_) (a' := ?_) #[true, true, true, true, false, false, false, false, false, false, false, false, false, false, false, false, false, false, false, false, false, false, false, false, false, false, false, false, false, false, false, false, false, false, false, false, false] rfl rfl (take_ofW HT_.out HW_.out (by kernel_rfl)) (fun _ _ _ h => h) (Or.inl ⟨by rfl, ?_⟩) hHeld ?_ ?_
  rotate_left
  · rintro w' ⟨s0, s1, s2⟩
    have c_ : w'.cell? ⟨w.heap.size, 7, none⟩ = some (.int .i64 c7) := (blk_cell s0 7).trans rfl
    go_simp
    with_reducible rfl
  rotate_left
  · simp only [Act.put, List.setIfInBounds_toArray, List.set_cons_zero, List.set_cons_succ, i64_w, i32_w]
    rfl
  refine pure_ (i := 4) (N := some 53) (v := ?_) (a' := ?_) #[true, true, true, true, true, false, false, false, false, false, false, false, false, false, false, false, false, false, false, false, false, false, false, false, false, false, false, false, false, false, false, false, false, false, false, false, false] rfl rfl (any_of HT_.out (by kernel_rfl)) (fun _ _ _ h => h) (Or.inl ⟨by rfl, ?_⟩) ?_ ?_
  rotate_left
  · intro w'
    go_simp
    with_reducible rfl
  rotate_left
  · simp only [Act.put, List.setIfInBounds_toArray, List.set_cons_zero, List.set_cons_succ, i64_w, i32_w]
    rfl
  refine pure_ (i := 5) (N := some 54) (v := ?_) (a' := ?_) #[true, true, true, true, true, true, false, false, false, false, false, false, false, false, false, false, false, false, false, false, false, false, false, false, false, false, false, false, false, false, false, false, false, false, false, false, false] rfl rfl (any_of HT_.out (by kernel_rfl)) (fun _ _ _ h => h) (Or.inl ⟨by rfl, ?_⟩) ?_ ?_
  rotate_left
  · intro w'
    go_simp
    with_reducible rfl
  rotate_left
  · simp only [Act.put, List.setIfInBounds_toArray, List.set_cons_zero, List.set_cons_succ, i64_w, i32_w]
    rfl
  refine pure_ (i := 6) (N := some 55) (v := ?_) (a' := ?_) #[true, true, true, true, true, true, true, false, false, false, false, false, false, false, false, false, false, false, false, false, false, false, false, false, false, false, false, false, false, false, false, false, false, false, false, false, false] rfl rfl (any_of HT_.out (by kernel_rfl)) (fun _ _ _ h => h) (Or.inl ⟨by rfl, ?_⟩) ?_ ?_
  rotate_left
  · intro w'
    go_simp
    with_reducible rfl
  rotate_left
  · simp only [Act.put, List.setIfInBounds_toArray, List.set_cons_zero, List.set_cons_succ, i64_w, i32_w]
    rfl
  refine pure_ (i := 8) (N := some 57) (v := ?_) (a' := ?_) #[true, true, true, true, true, true, true, false, true, false, false, false, false, false, false, false, false, false, false, false, false, false, false, false, false, false, false, false, false, false, false, false, false, false, false, false, false] rfl rfl (any_of HT_.out (by kernel_rfl)) (fun _ _ _ h => h) (Or.inl ⟨by rfl, ?_⟩) ?_ ?_
  rotate_left
  · intro w'
    go_simp
    with_reducible rfl
  rotate_left
  · simp only [Act.put, List.setIfInBounds_toArray, List.set_cons_zero, List.set_cons_succ, i64_w, i32_w]
    rfl
  refine take_ (i := 7) (N := some 56) (v := ?_) (a' := ?_) #[true, true, true, true, true, true, true, true, true, false, false, false, false, false, false, false, false, false, false, false, false, false, false, false, false, false, false, false, false, false, false, false, false, false, false, false, false] rfl rfl (take_ofW HT_.out HW_.out (by kernel_rfl)) (fun _ _ _ h => h) (Or.inl ⟨by rfl, ?_⟩) hHeld ?_ ?_
  rotate_left
  · rintro w' ⟨s0, s1, s2⟩
    have c_ : w'.cell? ⟨gs, 1, none⟩ = some (.int .i64 q1) := (blk_cell s2 1).trans rfl
    go_simp
    with_reducible rfl
  rotate_left
  · simp only [Act.put, List.setIfInBounds_toArray, List.set_cons_zero, List.set_cons_succ, i64_w, i32_w]
    rfl
  refine take_ (i := 9) (N := some 58) (v := ?_) (a' := ?_) #[true, true, true, true, true, true, true, true, true, true, false, false, false, false, false, false, false, false, false, false, false, false, false, false, false, false, false, false, false, false, false, false, false, false, false, false, false] rfl rfl (take_ofW HT_.out HW_.out (by kernel_rfl)) (fun _ _ _ h => h) (Or.inl ⟨by rfl, ?_⟩) hHeld ?_ ?_
  rotate_left
  · rintro w' ⟨s0, s1, s2⟩
    have c_ : w'.cell? ⟨w.heap.size, 8, none⟩ = some (.int .i64 c8) := (blk_cell s0 8).trans rfl
    go_simp
    with_reducible rfl
  rotate_left
  · simp only [Act.put, List.setIfInBounds_toArray, List.set_cons_zero, List.set_cons_succ, i64_w, i32_w]
    rfl
  refine pure_ (i := 10) (N := some 59) (v := ?_) (a' := ?_) #[true, true, true, true, true, true, true, true, true, true, true, false, false, false, false, false, false, false, false, false, false, false, false, false, false, false, false, false, false, false, false, false, false, false, false, false, false] rfl rfl (any_of HT_.out (by kernel_rfl)) (fun _ _ _ h => h) (Or.inl ⟨by rfl, ?_⟩) ?_ ?_
  rotate_left
  · intro w'
    go_simp
    with_reducible rfl
  rotate_left
  · simp only [Act.put, List.setIfInBounds_toArray, List.set_cons_zero, List.set_cons_succ, i64_w, i32_w]
    rfl
  refine pure_ (i := 11) (N := some 60) (v := ?_) (a' := ?_) #[true, true, true, true, true, true, true, true, true, true, true, true, false, false, false, false, false, false, false, false, false, false, false, false, false, false, false, false, false, false, false, false, false, false, false, false, false] rfl rfl (any_of HT_.out (by kernel_rfl)) (fun _ _ _ h => h) (Or.inl ⟨by rfl, ?_⟩) ?_ ?_
  rotate_left
  · intro w'
    go_simp
    with_reducible rfl
  rotate_left
  · simp only [Act.put, List.setIfInBounds_toArray, List.set_cons_zero, List.set_cons_succ, i64_w, i32_w]
    rfl
  refine pure_ (i := 12) (N := some 61) (v := ?_) (a' := ?_) #[true, true, true, true, true, true, true, true, true, true, true, true, true, false, false, false, false, false, false, false, false, false, false, false, false, false, false, false, false, false, false, false, false, false, false, false, false] rfl rfl (any_of HT_.out (by kernel_rfl)) (fun _ _ _ h => h) (Or.inl ⟨by rfl, ?_⟩) ?_ ?_
  rotate_left
  · intro w'
    go_simp
    with_reducible rfl
  rotate_left
  · simp only [Act.put, List.setIfInBounds_toArray, List.set_cons_zero, List.set_cons_succ, i64_w, i32_w]
    rfl
  refine pure_ (i := 13) (N := some 62) (v := ?_) (a' := ?_) #[true, true, true, true, true, true, true, true, true, true, true, true, true, true, false, false, false, false, false, false, false, false, false, false, false, false, false, false, false, false, false, false, false, false, false, false, false] rfl rfl (any_of HT_.out (by kernel_rfl)) (fun _ _ _ h => h) (Or.inl ⟨by rfl, ?_⟩) ?_ ?_
  rotate_left
  · intro w'
    go_simp
    with_reducible rfl
  rotate_left
  · simp only [Act.put, List.setIfInBounds_toArray, List.set_cons_zero, List.set_cons_succ, i64_w, i32_w]
    rfl
  refine pure_ (i := 17) (N := some 66) (v := ?_) (a' := ?_) #[true, true, true, true, true, true, true, true, true, true, true, true, true, true, false, false, false, true, false, false, false, false, false, false, false, false, false, false, false, false, false, false, false, false, false, false, false] rfl rfl (any_of HT_.out (by kernel_rfl)) (fun _ _ _ h => h) (Or.inl ⟨by rfl, ?_⟩) ?_ ?_
  rotate_left
  · intro w'
    go_simp
    with_reducible rfl
  rotate_left
  · simp only [Act.put, List.setIfInBounds_toArray, List.set_cons_zero, List.set_cons_succ, i64_w, i32_w]
    rfl
  refine take_ (i := 14) (N := some 63) (v := ?_) (a' := ?_) #[true, true, true, true, true, true, true, true, true, true, true, true, true, true, true, false, false, true, false, false, false, false, false, false, false, false, false, false, false, false, false, false, false, false, false, false, false] rfl rfl (take_ofW HT_.out HW_.out (by kernel_rfl)) (fun _ _ _ h => h) (Or.inl ⟨by rfl, ?_⟩) hHeld ?_ ?_
  rotate_left
  · rintro w' ⟨s0, s1, s2⟩
    have c_ : w'.cell? ⟨gs, 1, none⟩ = some (.int .i64 q1) := (blk_cell s2 1).trans rfl
    go_simp
    with_reducible rfl
  rotate_left
  · simp only [Act.put, List.setIfInBounds_toArray, List.set_cons_zero, List.set_cons_succ, i64_w, i32_w]
    rfl
  refine pure_ (i := 15) (N := some 64) (v := ?_) (a' := ?_) #[true, true, true, true, true, true, true, true, true, true, true, true, true, true, true, true, false, true, false, false, false, false, false, false, false, false, false, false, false, false, false, false, false, false, false, false, false] rfl rfl (any_of HT_.out (by kernel_rfl)) (fun _ _ _ h => h) (Or.inl ⟨by rfl, ?_⟩) ?_ ?_
  rotate_left
  · intro w'
    go_simp
    with_reducible rfl
  rotate_left
  · simp only [Act.put, List.setIfInBounds_toArray, List.set_cons_zero, List.set_cons_succ, i64_w, i32_w]
    rfl
  refine take_ (i := 16) (N := some 65) (v := ?_) (a' := ?_) #[true, true, true, true, true, true, true, true, true, true, true, true, true, true, true, true, true, true, false, false, false, false, false, false, false, false, false, false, false, false, false, false, false, false, false, false, false] rfl rfl (take_ofW HT_.out HW_.out (by kernel_rfl)) (fun _ _ _ h => h) (Or.inl ⟨by rfl, ?_⟩) hHeld ?_ ?_
  rotate_left
  · rintro w' ⟨s0, s1, s2⟩
    exact (ldrow (P := Try.prog) 99 _ _ Try.underlying99 rfl (by exact info_s) _ _ (.tmp 9) _ rfl (by rfl) w' s2).trans (by with_reducible rfl)
  rotate_left
  · simp only [Act.put, List.setIfInBounds_toArray, List.set_cons_zero, List.set_cons_succ, i64_w, i32_w]
    rfl
  refine take_ (i := 18) (N := some 67) (v := ?_) (a' := ?_) #[true, true, true, true, true, true, true, true, true, true, true, true, true, true, true, true, true, true, true, false, false, false, false, false, false, false, false, false, false, false, false, false, false, false, false, false, false] rfl rfl (take_ofW HT_.out HW_.out (by kernel_rfl)) (fun _ _ _ h => h) (Or.inl ⟨by rfl, ?_⟩) hHeld ?_ ?_
  rotate_left
  · rintro w' ⟨s0, s1, s2⟩
    have c_ : w'.cell? ⟨gs, 0, none⟩ = some (.int .i64 q0) := (blk_cell s2 0).trans rfl
    go_simp
    with_reducible rfl
  rotate_left
  · simp only [Act.put, List.setIfInBounds_toArray, List.set_cons_zero, List.set_cons_succ, i64_w, i32_w]
    rfl
  refine one_ (i := 19) (N := some 68) #[true, true, true, true, true, true, true, true, true, true, true, true, true, true, true, true, true, true, true, true, false, false, false, false, false, false, false, false, false, false, false, false, false, false, false, false, false] rfl rfl (one_of HT_.out (by kernel_rfl)) (by decide) (fun K hK => ?_)
  refine goes_ Try.func91 (by kernel_rfl) rfl #[.agg #[.int .i64 q0, .int .i64 q1, .int .i64 0], .int .i64 q0] (by rfl) rfl rfl (by simp only [List.map_toArray, List.map_cons, List.map_nil]; rfl) ?_
  with_reducible refine (HO.out _).mono ?_
  rintro e u19 ⟨rfl, hb⟩
  have Kc1 : Hid (u19.heap[w.heap.size]? = some (.cells #[.int .i64 c0, .int .i64 c1, .float .f64 c2, .int .i64 c3, .int .i64 c4, .int .i64 c5, .int .i64 c6, .int .i64 c7, .int .i64 c8, .bool c9, .bool c10] 95 (0, 0))) := Lib.hid (blk_below (by exact Kc0.out) hb)
  have Ka1 : Hid (u19.heap[w.heap.size + 1]? = some (.cells #[.int .i64 a0, .int .i64 a1, .int .i64 a2] 96 (0, 0))) := Lib.hid (blk_below (by exact Ka0.out) hb)
  have Ks1 : Hid (u19.heap[gs]? = some (.cells #[.int .i64 q0, .int .i64 q1, .int .i64 0] 99 (0, 0))) := Lib.hid (blk_below (by exact Ks0.out) hb)
  have BB1 : Hid (Below w.heap.size w u19) := Lib.hid (Below.trans (by exact BB0.out) (hb.mono (by have := BB0.out.size; simpa using this)))
  clear hb
  refine ⟨_, rfl, ?_⟩
  refine hK.out _ _ ⟨Kc1.out, Ka1.out, Ks1.out⟩ (fun hHeld => ?_)
  clear hK K
  refine norm_ (a' := ?_) ?_ ?_
  rotate_left
  · show Act.put _ (some 68) _ = _
    simp only [Act.put, List.setIfInBounds_toArray, List.set_cons_zero, List.set_cons_succ, i64_w, i32_w]
    rfl
  refine pure_ (i := 20) (N := some 69) (v := ?_) (a' := ?_) #[true, true, true, true, true, true, true, true, true, true, true, true, true, true, true, true, true, true, true, true, true, false, false, false, false, false, false, false, false, false, false, false, false, false, false, false, false] rfl rfl (any_of HT_.out (by kernel_rfl)) (fun _ _ _ h => h) (Or.inl ⟨by rfl, ?_⟩) ?_ ?_
  rotate_left
  · intro w'
    go_simp
    with_reducible rfl
  rotate_left
  · simp only [Act.put, List.setIfInBounds_toArray, List.set_cons_zero, List.set_cons_succ, i64_w, i32_w]
    rfl
  refine pure_ (i := 21) (N := some 70) (v := ?_) (a' := ?_) #[true, true, true, true, true, true, true, true, true, true, true, true, true, true, true, true, true, true, true, true, true, true, false, false, false, false, false, false, false, false, false, false, false, false, false, false, false] rfl rfl (any_of HT_.out (by kernel_rfl)) (fun _ _ _ h => h) (Or.inl ⟨by rfl, ?_⟩) ?_ ?_
  rotate_left
  · intro w'
    go_simp
    with_reducible rfl
  rotate_left
  · simp only [Act.put, List.setIfInBounds_toArray, List.set_cons_zero, List.set_cons_succ, i64_w, i32_w]
    rfl
  refine pure_ (i := 22) (N := some 71) (v := undef) (a' := ?_) #[true, true, true, true, true, true, true, true, true, true, true, true, true, true, true, true, true, true, true, true, true, true, true, false, false, false, false, false, false, false, false, false, false, false, false, false, false] rfl rfl (any_of HT_.out (by kernel_rfl)) (fun _ _ _ h => h) (Or.inr ⟨by rfl, rfl⟩) ?_ ?_
  rotate_left
  · simp only [Act.put, List.setIfInBounds_toArray, List.set_cons_zero, List.set_cons_succ, i64_w, i32_w]
    rfl
  refine pure_ (i := 23) (N := some 72) (v := undef) (a' := ?_) #[true, true, true, true, true, true, true, true, true, true, true, true, true, true, true, true, true, true, true, true, true, true, true, true, false, false, false, false, false, false, false, false, false, false, false, false, false] rfl rfl (any_of HT_.out (by kernel_rfl)) (fun _ _ _ h => h) (Or.inr ⟨by rfl, rfl⟩) ?_ ?_
  rotate_left
  · simp only [Act.put, List.setIfInBounds_toArray, List.set_cons_zero, List.set_cons_succ, i64_w, i32_w]
    rfl
  refine pure_ (i := 24) (N := some 73) (v := undef) (a' := ?_) #[true, true, true, true, true, true, true, true, true, true, true, true, true, true, true, true, true, true, true, true, true, true, true, true, true, false, false, false, false, false, false, false, false, false, false, false, false] rfl rfl (any_of HT_.out (by kernel_rfl)) (fun _ _ _ h => h) (Or.inr ⟨by rfl, rfl⟩) ?_ ?_
  rotate_left
  · simp only [Act.put, List.setIfInBounds_toArray, List.set_cons_zero, List.set_cons_succ, i64_w, i32_w]
    rfl
  refine pure_ (i := 25) (N := some 74) (v := ?_) (a' := ?_) #[true, true, true, true, true, true, true, true, true, true, true, true, true, true, true, true, true, true, true, true, true, true, true, true, true, true, false, false, false, false, false, false, false, false, false, false, false] rfl rfl (any_of HT_.out (by kernel_rfl)) (fun _ _ _ h => h) (Or.inl ⟨by rfl, ?_⟩) ?_ ?_
  rotate_left
  · intro w'
    go_simp
    with_reducible rfl
  rotate_left
  · simp only [Act.put, List.setIfInBounds_toArray, List.set_cons_zero, List.set_cons_succ, i64_w, i32_w]
    rfl
  refine pure_ (i := 26) (N := some 75) (v := ?_) (a' := ?_) #[true, true, true, true, true, true, true, true, true, true, true, true, true, true, true, true, true, true, true, true, true, true, true, true, true, true, true, false, false, false, false, false, false, false, false, false, false] rfl rfl (any_of HT_.out (by kernel_rfl)) (fun _ _ _ h => h) (Or.inl ⟨by rfl, ?_⟩) ?_ ?_
  rotate_left
  · intro w'
    go_simp
    with_reducible rfl
  rotate_left
  · simp only [Act.put, List.setIfInBounds_toArray, List.set_cons_zero, List.set_cons_succ, i64_w, i32_w]
    rfl
  refine pure_ (i := 27) (N := some 76) (v := ?_) (a' := ?_) #[true, true, true, true, true, true, true, true, true, true, true, true, true, true, true, true, true, true, true, true, true, true, true, true, true, true, true, true, false, false, false, false, false, false, false, false, false] rfl rfl (any_of HT_.out (by kernel_rfl)) (fun _ _ _ h => h) (Or.inl ⟨by rfl, ?_⟩) ?_ ?_
  rotate_left
  · intro w'
    go_simp
    with_reducible rfl
  rotate_left
  · simp only [Act.put, List.setIfInBounds_toArray, List.set_cons_zero, List.set_cons_succ, i64_w, i32_w]
    rfl
  refine pure_ (i := 28) (N := some 77) (v := ?_) (a' := ?_) #[true, true, true, true, true, true, true, true, true, true, true, true, true, true, true, true, true, true, true, true, true, true, true, true, true, true, true, true, true, false, false, false, false, false, false, false, false] rfl rfl (any_of HT_.out (by kernel_rfl)) (fun _ _ _ h => h) (Or.inl ⟨by rfl, ?_⟩) ?_ ?_
  rotate_left
  · intro w'
    go_simp
    with_reducible rfl
  rotate_left
  · simp only [Act.put, List.setIfInBounds_toArray, List.set_cons_zero, List.set_cons_succ, i64_w, i32_w]
    rfl
  refine take_ (i := 29) (N := some 78) (v := ?_) (a' := ?_) #[true, true, true, true, true, true, true, true, true, true, true, true, true, true, true, true, true, true, true, true, true, true, true, true, true, true, true, true, true, true, false, false, false, false, false, false, false] rfl rfl (take_ofW HT_.out HW_.out (by kernel_rfl)) (fun _ _ _ h => h) (Or.inl ⟨by rfl, ?_⟩) hHeld ?_ ?_
  rotate_left
  · rintro w' ⟨s0, s1, s2⟩
    have c_ : w'.cell? ⟨gs, 2, none⟩ = some (.int .i64 0) := (blk_cell s2 2).trans rfl
    go_simp
    with_reducible rfl
  rotate_left
  · simp only [Act.put, List.setIfInBounds_toArray, List.set_cons_zero, List.set_cons_succ, i64_w, i32_w]
    rfl
  refine pure_ (i := 30) (N := some 79) (v := ?_) (a' := ?_) #[true, true, true, true, true, true, true, true, true, true, true, true, true, true, true, true, true, true, true, true, true, true, true, true, true, true, true, true, true, true, true, false, false, false, false, false, false] rfl rfl (any_of HT_.out (by kernel_rfl)) (fun _ _ _ h => h) (Or.inl ⟨by rfl, ?_⟩) ?_ ?_
  rotate_left
  · intro w'
    go_simp
    with_reducible rfl
  rotate_left
  · simp only [Act.put, List.setIfInBounds_toArray, List.set_cons_zero, List.set_cons_succ, i64_w, i32_w]
    rfl
  refine pure_ (i := 31) (N := some 80) (v := ?_) (a' := ?_) #[true, true, true, true, true, true, true, true, true, true, true, true, true, true, true, true, true, true, true, true, true, true, true, true, true, true, true, true, true, true, true, true, false, false, false, false, false] rfl rfl (any_of HT_.out (by kernel_rfl)) (fun _ _ _ h => h) (Or.inl ⟨by rfl, ?_⟩) ?_ ?_
  rotate_left
  · intro w'
    go_simp
    with_reducible rfl
  rotate_left
  · simp only [Act.put, List.setIfInBounds_toArray, List.set_cons_zero, List.set_cons_succ, i64_w, i32_w]
    rfl
  refine pure_ (i := 32) (N := some 81) (v := undef) (a' := ?_) #[true, true, true, true, true, true, true, true, true, true, true, true, true, true, true, true, true, true, true, true, true, true, true, true, true, true, true, true, true, true, true, true, true, false, false, false, false] rfl rfl (any_of HT_.out (by kernel_rfl)) (fun _ _ _ h => h) (Or.inr ⟨by rfl, rfl⟩) ?_ ?_
  rotate_left
  · simp only [Act.put, List.setIfInBounds_toArray, List.set_cons_zero, List.set_cons_succ, i64_w, i32_w]
    rfl
  refine pure_ (i := 33) (N := some 82) (v := undef) (a' := ?_) #[true, true, true, true, true, true, true, true, true, true, true, true, true, true, true, true, true, true, true, true, true, true, true, true, true, true, true, true, true, true, true, true, true, true, false, false, false] rfl rfl (any_of HT_.out (by kernel_rfl)) (fun _ _ _ h => h) (Or.inr ⟨by rfl, rfl⟩) ?_ ?_
  rotate_left
  · simp only [Act.put, List.setIfInBounds_toArray, List.set_cons_zero, List.set_cons_succ, i64_w, i32_w]
    rfl
  refine pure_ (i := 34) (N := some 83) (v := undef) (a' := ?_) #[true, true, true, true, true, true, true, true, true, true, true, true, true, true, true, true, true, true, true, true, true, true, true, true, true, true, true, true, true, true, true, true, true, true, true, false, false] rfl rfl (any_of HT_.out (by kernel_rfl)) (fun _ _ _ h => h) (Or.inr ⟨by rfl, rfl⟩) ?_ ?_
  rotate_left
  · simp only [Act.put, List.setIfInBounds_toArray, List.set_cons_zero, List.set_cons_succ, i64_w, i32_w]
    rfl
  refine pure_ (i := 35) (N := some 84) (v := ?_) (a' := ?_) #[true, true, true, true, true, true, true, true, true, true, true, true, true, true, true, true, true, true, true, true, true, true, true, true, true, true, true, true, true, true, true, true, true, true, true, true, false] rfl rfl (any_of HT_.out (by kernel_rfl)) (fun _ _ _ h => h) (Or.inl ⟨by rfl, ?_⟩) ?_ ?_
  rotate_left
  · intro w'
    go_simp
    with_reducible rfl
  rotate_left
  · simp only [Act.put, List.setIfInBounds_toArray, List.set_cons_zero, List.set_cons_succ, i64_w, i32_w]
    rfl
  refine pure_ (i := 36) (N := some 85) (v := ?_) (a' := ?_) #[true, true, true, true, true, true, true, true, true, true, true, true, true, true, true, true, true, true, true, true, true, true, true, true, true, true, true, true, true, true, true, true, true, true, true, true, true] rfl rfl (any_of HT_.out (by kernel_rfl)) (fun _ _ _ h => h) (Or.inl ⟨by rfl, ?_⟩) ?_ ?_
  rotate_left
  · intro w'
    go_simp
    with_reducible rfl
  rotate_left
  · simp only [Act.put, List.setIfInBounds_toArray, List.set_cons_zero, List.set_cons_succ, i64_w, i32_w]
    rfl
  refine done_ (done_of HT_.out (by kernel_rfl)) ?_
  have cs1 : u19.cell? ⟨gs, 1, none⟩ = some (.int .i64 q1) := (blk_cell Ks1.out 1).trans rfl
  have cs2 : u19.cell? ⟨gs, 2, none⟩ = some (.int .i64 0) := (blk_cell Ks1.out 2).trans rfl
  go_wp2_with ((with_reducible refine (HL.out _).mono ?_); rintro e w2 ⟨rfl, hb⟩)
  go_ret
  exact ⟨rfl, Below.trans BB1.out (hb.mono BB1.out.size)⟩
set_option maxRecDepth 100000 in
set_option maxHeartbeats 8000000 in
theorem way_lo (c0 c1 : Int) (c2 : Nat) (c3 c4 c5 c6 c7 c8 : Int) (c9 c10 : Bool) (a0 a1 a2 late nw nt nu n0 n1 n2 q0 q1 q2 p0 p1 p2 z0 z1 z2 : Int) (w : World) (l0 : decide (a0 < 0) = false) (m0 : decide (1099511627776 < a0) = false) (l1 : decide (a1 < 0) = false) (m1 : decide (1099511627776 < a1) = false) (l2 : decide (a2 < 0) = false) (m2 : decide (1099511627776 < a2) = false) (hr : ∀ w, Calls Try.prog 88 #[.agg #[.int .i64 c0, .int .i64 c1, .float .f64 c2, .int .i64 c3, .int .i64 c4, .int .i64 c5, .int .i64 c6, .int .i64 c7, .int .i64 c8, .bool c9, .bool c10]] w fun e w' => e = .returned (.int .i64 0) ∧ Below w.heap.size w w') (l3 : decide (late < 0) = false) (l4 : decide (1099511627776 < late) = false) (hl : ∀ w, Calls Try.prog 87 #[] w fun e w' => e = .returned (.bool true) ∧ Below w.heap.size w w')
    (hn : ∀ w, Calls Try.prog 90 #[.agg #[.int .i64 c0, .int .i64 c1, .float .f64 c2, .int .i64 c3, .int .i64 c4, .int .i64 c5, .int .i64 c6, .int .i64 c7, .int .i64 c8, .bool c9, .bool c10], .int .i64 a0] w fun e w' => e = .returned (.agg #[.int .i64 n0, .int .i64 n1, .int .i64 n2]) ∧ Below w.heap.size w w')
    (hnw : wrap64 (a0 + a2) = nw) (hnx : IntKind.i64.wrap (a0 + a2) = nw)
    (hs : ∀ w, Calls Try.prog 89 #[.agg #[.int .i64 n0, .int .i64 n1, .int .i64 n2], .agg #[.int .i64 c0, .int .i64 c1, .float .f64 c2, .int .i64 c3, .int .i64 c4, .int .i64 c5, .int .i64 c6, .int .i64 c7, .int .i64 c8, .bool c9, .bool c10], .int .i64 a1, .int .i64 nw] w fun e w' => e = .returned (.agg #[.int .i64 q0, .int .i64 q1, .int .i64 q2]) ∧ Below w.heap.size w w')
    (ho : ∀ w, Calls Try.prog 91 #[.agg #[.int .i64 q0, .int .i64 q1, .int .i64 q2], .int .i64 q0] w fun e w' => e = .returned (.bool true) ∧ Below w.heap.size w w')
    (v1 : decide (q1 < c7) = false) (v2 : decide (c8 < q1) = false)
    (hnt : wrap64 (q2 + late) = nt) (hntx : IntKind.i64.wrap (q2 + late) = nt) (hnu : wrap64 (q2 - 1) = nu) (hnux : IntKind.i64.wrap (q2 - 1) = nu)
    (ht : ∀ w, Calls Try.prog 89 #[.agg #[.int .i64 q0, .int .i64 q1, .int .i64 q2], .agg #[.int .i64 c0, .int .i64 c1, .float .f64 c2, .int .i64 c3, .int .i64 c4, .int .i64 c5, .int .i64 c6, .int .i64 c7, .int .i64 c8, .bool c9, .bool c10], .int .i64 a1, .int .i64 nt] w fun e w' => e = .returned (.agg #[.int .i64 p0, .int .i64 p1, .int .i64 p2]) ∧ Below w.heap.size w w')
    (hp : ∀ w, Calls Try.prog 91 #[.agg #[.int .i64 p0, .int .i64 p1, .int .i64 p2], .int .i64 p0] w fun e w' => e = .returned (.bool false) ∧ Below w.heap.size w w')
    (hu : ∀ w, Calls Try.prog 89 #[.agg #[.int .i64 q0, .int .i64 q1, .int .i64 q2], .agg #[.int .i64 c0, .int .i64 c1, .float .f64 c2, .int .i64 c3, .int .i64 c4, .int .i64 c5, .int .i64 c6, .int .i64 c7, .int .i64 c8, .bool c9, .bool c10], .int .i64 a1, .int .i64 nu] w fun e w' => e = .returned (.agg #[.int .i64 z0, .int .i64 z1, .int .i64 z2]) ∧ Below w.heap.size w w')
    (v6 : decide (p1 < 0) = false) (v7 : decide (z1 < 0) = true) (v8 : decide (0 < z2) = true) (v3 : decide (q1 < 0) = true) (v4 : decide (0 ≤ q1) = false) (v5 : decide (0 < q2) = true) :
    Calls Try.prog 13 #[.agg #[.int .i64 c0, .int .i64 c1, .float .f64 c2, .int .i64 c3, .int .i64 c4, .int .i64 c5, .int .i64 c6, .int .i64 c7, .int .i64 c8, .bool c9, .bool c10], .agg #[.int .i64 a0, .int .i64 a1, .int .i64 a2], .int .i64 late] w fun e w' => e = .returned (.bool true) ∧ Below w.heap.size w w' := by
  have HT := Lib.hid ht; have HP := Lib.hid hp; have HU := Lib.hid hu; have HNT := Lib.hid hnt; have HNTX := Lib.hid hntx; have HNU := Lib.hid hnu; have HNUX := Lib.hid hnux; clear ht hp hu hnt hntx hnu hnux
  have HL := Lib.hid hl; have HR := Lib.hid hr; have HN := Lib.hid hn; have HS := Lib.hid hs; have HO := Lib.hid ho; have HW := Lib.hid hnw; have HX := Lib.hid hnx; clear hl hr hn hs ho hnw hnx
  go_enter Try.func13, Try.ntmps13
  have x0 : ∀ w, Sem.run Try.prog (Instr.index 96 (.agg #[.int .i64 a0, .int .i64 a1, .int .i64 a2]) (.int .i64 0)) w = .ok (.int .i64 a0) w := fun _ => by kernel_rfl
  have x1 : ∀ w, Sem.run Try.prog (Instr.index 96 (.agg #[.int .i64 a0, .int .i64 a1, .int .i64 a2]) (.int .i64 1)) w = .ok (.int .i64 a1) w := fun _ => by kernel_rfl
  have x2 : ∀ w, Sem.run Try.prog (Instr.index 96 (.agg #[.int .i64 a0, .int .i64 a1, .int .i64 a2]) (.int .i64 2)) w = .ok (.int .i64 a2) w := fun _ => by kernel_rfl
  go_wp2
  have Kc0 : Hid (((w.alloc (.cells #[.int .i64 c0, .int .i64 c1, .float .f64 c2, .int .i64 c3, .int .i64 c4, .int .i64 c5, .int .i64 c6, .int .i64 c7, .int .i64 c8, .bool c9, .bool c10] 95 (0, 0))).alloc (.cells #[.int .i64 a0, .int .i64 a1, .int .i64 a2] 96 (0, 0))).heap[w.heap.size]? = some (.cells #[.int .i64 c0, .int .i64 c1, .float .f64 c2, .int .i64 c3, .int .i64 c4, .int .i64 c5, .int .i64 c6, .int .i64 c7, .int .i64 c8, .bool c9, .bool c10] 95 (0, 0))) := Lib.hid (blk_alloc (blk_new w _) _)
  have Ka0 : Hid (((w.alloc (.cells #[.int .i64 c0, .int .i64 c1, .float .f64 c2, .int .i64 c3, .int .i64 c4, .int .i64 c5, .int .i64 c6, .int .i64 c7, .int .i64 c8, .bool c9, .bool c10] 95 (0, 0))).alloc (.cells #[.int .i64 a0, .int .i64 a1, .int .i64 a2] 96 (0, 0))).heap[w.heap.size + 1]? = some (.cells #[.int .i64 a0, .int .i64 a1, .int .i64 a2] 96 (0, 0))) := Lib.hid (new_at _ _ _ (by simp))
  have BB0 : Hid (Below w.heap.size w ((w.alloc (.cells #[.int .i64 c0, .int .i64 c1, .float .f64 c2, .int .i64 c3, .int .i64 c4, .int .i64 c5, .int .i64 c6, .int .i64 c7, .int .i64 c8, .bool c9, .bool c10] 95 (0, 0))).alloc (.cells #[.int .i64 a0, .int .i64 a1, .int .i64 a2] 96 (0, 0)))) := Lib.hid (((Below.refl w.heap.size w).alloc (Nat.le_refl _) _).alloc (by simp) _)
  revert Kc0 Ka0 BB0
  generalize ((w.alloc (.cells #[.int .i64 c0, .int .i64 c1, .float .f64 c2, .int .i64 c3, .int .i64 c4, .int .i64 c5, .int .i64 c6, .int .i64 c7, .int .i64 c8, .bool c9, .bool c10] 95 (0, 0))).alloc (.cells #[.int .i64 a0, .int .i64 a1, .int .i64 a2] 96 (0, 0))) = w0
  intro Kc0 Ka0 BB0
  refine wp_loop_rounds 4 ?_
  rw [rounds_succ]
  go_wp2
  rw [rounds_succ]
  go_wp2
  rw [rounds_succ]
  go_wp2
  rw [rounds_succ]
  go_wp2_with ((with_reducible refine gate_dst (N := 24) rfl ?_); refine wpList_load_row rfl 95 (.tmp 3) rfl (w.heap.size) rfl 95 #[.int .i64 c0, .int .i64 c1, .float .f64 c2, .int .i64 c3, .int .i64 c4, .int .i64 c5, .int .i64 c6, .int .i64 c7, .int .i64 c8, .bool c9, .bool c10] (0, 0) _ Kc0.out Try.underlying95 rfl info_c ?_)
  (with_reducible refine (HR.out _).mono ?_); rintro e w1 ⟨rfl, hb⟩
  have Kc1 := Lib.hid (blk_below Kc0.out hb); have Ka1 := Lib.hid (blk_below Ka0.out hb)
  have BB1 : Hid (Below w.heap.size w w1) := Lib.hid (Below.trans BB0.out (hb.mono BB0.out.size))
  clear hb Kc0 Ka0 BB0 x0 x1 x2
  have Kc0 := Kc1; have Ka0 := Ka1; have BB0 := BB1; clear Kc1 Ka1 BB1
  go_wp2_with fail
  have hnw := HW.out; have hnx := HX.out
  refine start_ (n := 15) (S := fun w' => w'.heap[w.heap.size]? = some (.cells #[.int .i64 c0, .int .i64 c1, .float .f64 c2, .int .i64 c3, .int .i64 c4, .int .i64 c5, .int .i64 c6, .int .i64 c7, .int .i64 c8, .bool c9, .bool c10] 95 (0, 0)) ∧ w'.heap[w.heap.size + 1]? = some (.cells #[.int .i64 a0, .int .i64 a1, .int .i64 a2] 96 (0, 0))) (ds := [14]) #[false, false, false, false, false, false, false, false, false, false, false, false, false, false, false] (by kernel_rfl) rfl rfl ⟨Kc0.out, Ka0.out⟩ (fun hHeld => ?_)
  refine with_tabW rgnIdleWaits.tab9 rgnIdleWaits.bits9 (fun HT_ HW_ => ?_)
  have nb_ := Lib.hid (below_drew1 BB0.out); clear BB0; have BB0 := nb_; clear nb_
  have n0_ := Lib.hid (blk_drew Kc0.out); have n1_ := Lib.hid (blk_drew Ka0.out); clear Kc0 Ka0; have Kc0 := n0_; have Ka0 := n1_; clear n0_ n1_
  revert Kc0 Ka0 BB0 hHeld
  generalize w1.drew = wd
  intro hHeld BB0 Kc0 Ka0
  refine pure_ (i := 1) (N := some 37) (v := ?_) (a' := ?_) #[false, true, false, false, false, false, false, false, false, false, false, false, false, false, false] rfl rfl (any_of HT_.out (by kernel_rfl)) (fun _ _ _ h => h) (Or.inl ⟨by rfl, ?_⟩) ?_ ?_
  rotate_left
  · intro w'
    go_simp
    with_reducible rfl
  rotate_left
  · simp only [Act.put, List.setIfInBounds_toArray, List.set_cons_zero, List.set_cons_succ, i64_w, i32_w]
    rfl
  refine pure_ (i := 5) (N := some 41) (v := ?_) (a' := ?_) #[false, true, false, false, false, true, false, false, false, false, false, false, false, false, false] rfl rfl (any_of HT_.out (by kernel_rfl)) (fun _ _ _ h => h) (Or.inl ⟨by rfl, ?_⟩) ?_ ?_
  rotate_left
  · intro w'
    go_simp
    with_reducible rfl
  rotate_left
  · simp only [Act.put, List.setIfInBounds_toArray, List.set_cons_zero, List.set_cons_succ, i64_w, i32_w]
    rfl
  refine pure_ (i := 7) (N := some 43) (v := ?_) (a' := ?_) #[false, true, false, false, false, true, false, true, false, false, false, false, false, false, false] rfl rfl (any_of HT_.out (by kernel_rfl)) (fun _ _ _ h => h) (Or.inl ⟨by rfl, ?_⟩) ?_ ?_
  rotate_left
  · intro w'
    go_simp
    with_reducible rfl
  rotate_left
  · simp only [Act.put, List.setIfInBounds_toArray, List.set_cons_zero, List.set_cons_succ, i64_w, i32_w]
    rfl
  refine pure_ (i := 9) (N := some 45) (v := ?_) (a' := ?_) #[false, true, false, false, false, true, false, true, false, true, false, false, false, false, false] rfl rfl (any_of HT_.out (by kernel_rfl)) (fun _ _ _ h => h) (Or.inl ⟨by rfl, ?_⟩) ?_ ?_
  rotate_left
  · intro w'
    go_simp
    with_reducible rfl
  rotate_left
  · simp only [Act.put, List.setIfInBounds_toArray, List.set_cons_zero, List.set_cons_succ, i64_w, i32_w]
    rfl
  refine take_ (i := 0) (N := some 36) (v := ?_) (a' := ?_) #[true, true, false, false, false, true, false, true, false, true, false, false, false, false, false] rfl rfl (take_ofW HT_.out HW_.out (by kernel_rfl)) (fun _ _ _ h => h) (Or.inl ⟨by rfl, ?_⟩) hHeld ?_ ?_
  rotate_left
  · rintro w' ⟨s0, s1⟩
    exact (ldrow (P := Try.prog) 95 _ _ Try.underlying95 rfl (by exact info_c) _ _ (.tmp 3) _ rfl (by rfl) w' s0).trans (by with_reducible rfl)
  rotate_left
  · simp only [Act.put, List.setIfInBounds_toArray, List.set_cons_zero, List.set_cons_succ, i64_w, i32_w]
    rfl
  refine take_ (i := 2) (N := some 38) (v := ?_) (a' := ?_) #[true, true, true, false, false, true, false, true, false, true, false, false, false, false, false] rfl rfl (take_ofW HT_.out HW_.out (by kernel_rfl)) (fun _ _ _ h => h) (Or.inl ⟨by rfl, ?_⟩) hHeld ?_ ?_
  rotate_left
  · rintro w' ⟨s0, s1⟩
    have c_ : w'.cell? ⟨w.heap.size + 1, 0, none⟩ = some (.int .i64 a0) := (blk_cell s1 0).trans rfl
    go_simp
    with_reducible rfl
  rotate_left
  · simp only [Act.put, List.setIfInBounds_toArray, List.set_cons_zero, List.set_cons_succ, i64_w, i32_w]
    rfl
  refine take_ (i := 4) (N := some 40) (v := ?_) (a' := ?_) #[true, true, true, false, true, true, false, true, false, true, false, false, false, false, false] rfl rfl (take_ofW HT_.out HW_.out (by kernel_rfl)) (fun _ _ _ h => h) (Or.inl ⟨by rfl, ?_⟩) hHeld ?_ ?_
  rotate_left
  · rintro w' ⟨s0, s1⟩
    exact (ldrow (P := Try.prog) 95 _ _ Try.underlying95 rfl (by exact info_c) _ _ (.tmp 3) _ rfl (by rfl) w' s0).trans (by with_reducible rfl)
  rotate_left
  · simp only [Act.put, List.setIfInBounds_toArray, List.set_cons_zero, List.set_cons_succ, i64_w, i32_w]
    rfl
  refine take_ (i := 6) (N := some 42) (v := ?_) (a' := ?_) #[true, true, true, false, true, true, true, true, false, true, false, false, false, false, false] rfl rfl (take_ofW HT_.out HW_.out (by kernel_rfl)) (fun _ _ _ h => h) (Or.inl ⟨by rfl, ?_⟩) hHeld ?_ ?_
  rotate_left
  · rintro w' ⟨s0, s1⟩
    have c_ : w'.cell? ⟨w.heap.size + 1, 1, none⟩ = some (.int .i64 a1) := (blk_cell s1 1).trans rfl
    go_simp
    with_reducible rfl
  rotate_left
  · simp only [Act.put, List.setIfInBounds_toArray, List.set_cons_zero, List.set_cons_succ, i64_w, i32_w]
    rfl
  refine take_ (i := 8) (N := some 44) (v := ?_) (a' := ?_) #[true, true, true, false, true, true, true, true, true, true, false, false, false, false, false] rfl rfl (take_ofW HT_.out HW_.out (by kernel_rfl)) (fun _ _ _ h => h) (Or.inl ⟨by rfl, ?_⟩) hHeld ?_ ?_
  rotate_left
  · rintro w' ⟨s0, s1⟩
    have c_ : w'.cell? ⟨w.heap.size + 1, 0, none⟩ = some (.int .i64 a0) := (blk_cell s1 0).trans rfl
    go_simp
    with_reducible rfl
  rotate_left
  · simp only [Act.put, List.setIfInBounds_toArray, List.set_cons_zero, List.set_cons_succ, i64_w, i32_w]
    rfl
  refine take_ (i := 10) (N := some 46) (v := ?_) (a' := ?_) #[true, true, true, false, true, true, true, true, true, true, true, false, false, false, false] rfl rfl (take_ofW HT_.out HW_.out (by kernel_rfl)) (fun _ _ _ h => h) (Or.inl ⟨by rfl, ?_⟩) hHeld ?_ ?_
  rotate_left
  · rintro w' ⟨s0, s1⟩
    have c_ : w'.cell? ⟨w.heap.size + 1, 2, none⟩ = some (.int .i64 a2) := (blk_cell s1 2).trans rfl
    go_simp
    with_reducible rfl
  rotate_left
  · simp only [Act.put, List.setIfInBounds_toArray, List.set_cons_zero, List.set_cons_succ, i64_w, i32_w]
    rfl
  refine pure_ (i := 11) (N := some 47) (v := ?_) (a' := ?_) #[true, true, true, false, true, true, true, true, true, true, true, true, false, false, false] rfl rfl (any_of HT_.out (by kernel_rfl)) (fun _ _ _ h => h) (Or.inl ⟨by rfl, ?_⟩) ?_ ?_
  rotate_left
  · intro w'
    go_simp
    with_reducible rfl
  rotate_left
  · simp only [Act.put, List.setIfInBounds_toArray, List.set_cons_zero, List.set_cons_succ, i64_w, i32_w]
    rfl
  refine join_ (σ := Nat) 1 #[true, true, true, true, true, true, true, true, true, true, true, true, true, true, false] (fun s => [(39, .agg #[.int .i64 n0, .int .i64 n1, .int .i64 n2]), (48, .agg #[.int .i64 q0, .int .i64 q1, .int .i64 q2]), (9, .pointer (some ⟨s, 0, none⟩))]) (fun s w' => w'.heap[w.heap.size]? = some (.cells #[.int .i64 c0, .int .i64 c1, .float .f64 c2, .int .i64 c3, .int .i64 c4, .int .i64 c5, .int .i64 c6, .int .i64 c7, .int .i64 c8, .bool c9, .bool c10] 95 (0, 0)) ∧ w'.heap[w.heap.size + 1]? = some (.cells #[.int .i64 a0, .int .i64 a1, .int .i64 a2] 96 (0, 0)) ∧ w'.heap[s]? = some (.cells #[.int .i64 0, .int .i64 0, .int .i64 0] 99 (0, 0)) ∧ w.heap.size < s ∧ w.heap.size + 1 < s ∧ w.heap.size ≤ s ∧ Below w.heap.size w w') ?_ ?_
  rotate_left
  · intro hCont
    refine two_ (i := 3) (j := 13) (Ni := some 39) (Nj := some 9) #[true, true, true, true, true, true, true, true, true, true, true, true, false, false, false] #[true, true, true, false, true, true, true, true, true, true, true, true, false, true, false] rfl rfl rfl rfl (two_of HT_.out (by kernel_rfl)) (by decide) (by decide) (fun K hK => ?_) (fun K hK => ?_)
    · skip
      refine goes_ Try.func90 (by kernel_rfl) rfl #[.agg #[.int .i64 c0, .int .i64 c1, .float .f64 c2, .int .i64 c3, .int .i64 c4, .int .i64 c5, .int .i64 c6, .int .i64 c7, .int .i64 c8, .bool c9, .bool c10], .int .i64 a0] (by rfl) rfl rfl (by simp only [List.map_toArray, List.map_cons, List.map_nil]; rfl) ?_
      with_reducible refine (HN.out _).mono ?_
      rintro e u3 ⟨rfl, hb⟩
      have Kc1 : Hid (u3.heap[w.heap.size]? = some (.cells #[.int .i64 c0, .int .i64 c1, .float .f64 c2, .int .i64 c3, .int .i64 c4, .int .i64 c5, .int .i64 c6, .int .i64 c7, .int .i64 c8, .bool c9, .bool c10] 95 (0, 0))) := Lib.hid (blk_below (by exact Kc0.out) hb)
      have Ka1 : Hid (u3.heap[w.heap.size + 1]? = some (.cells #[.int .i64 a0, .int .i64 a1, .int .i64 a2] 96 (0, 0))) := Lib.hid (blk_below (by exact Ka0.out) hb)
      have BB1 : Hid (Below w.heap.size w u3) := Lib.hid (Below.trans (by exact BB0.out) (hb.mono (by have := BB0.out.size; simpa using this)))
      clear hb
      refine ⟨_, rfl, ?_⟩
      refine hK.out _ _ ⟨Kc1.out, Ka1.out⟩ (fun hHeld => ?_)
      clear hK K
      refine norm_ (a' := ?_) ?_ ?_
      rotate_left
      · show Act.put _ (some 39) _ = _
        simp only [Act.put, List.setIfInBounds_toArray, List.set_cons_zero, List.set_cons_succ, i64_w, i32_w]
        rfl
      refine two_ (i := 12) (j := 13) (Ni := some 48) (Nj := some 9) #[true, true, true, true, true, true, true, true, true, true, true, true, true, false, false] #[true, true, true, true, true, true, true, true, true, true, true, true, false, true, false] rfl rfl rfl rfl (two_of HT_.out (by kernel_rfl)) (by decide) (by decide) (fun K hK => ?_) (fun K hK => ?_)
      · skip
        refine goes_ Try.func89 (by kernel_rfl) rfl #[.agg #[.int .i64 n0, .int .i64 n1, .int .i64 n2], .agg #[.int .i64 c0, .int .i64 c1, .float .f64 c2, .int .i64 c3, .int .i64 c4, .int .i64 c5, .int .i64 c6, .int .i64 c7, .int .i64 c8, .bool c9, .bool c10], .int .i64 a1, .int .i64 nw] (by rfl) rfl rfl (by simp only [List.map_toArray, List.map_cons, List.map_nil]; rfl) ?_
        with_reducible refine (HS.out _).mono ?_
        rintro e u12 ⟨rfl, hb⟩
        have Kc2 : Hid (u12.heap[w.heap.size]? = some (.cells #[.int .i64 c0, .int .i64 c1, .float .f64 c2, .int .i64 c3, .int .i64 c4, .int .i64 c5, .int .i64 c6, .int .i64 c7, .int .i64 c8, .bool c9, .bool c10] 95 (0, 0))) := Lib.hid (blk_below (by exact Kc1.out) hb)
        have Ka2 : Hid (u12.heap[w.heap.size + 1]? = some (.cells #[.int .i64 a0, .int .i64 a1, .int .i64 a2] 96 (0, 0))) := Lib.hid (blk_below (by exact Ka1.out) hb)
        have BB2 : Hid (Below w.heap.size w u12) := Lib.hid (Below.trans (by exact BB1.out) (hb.mono (by have := BB1.out.size; simpa using this)))
        clear hb
        refine ⟨_, rfl, ?_⟩
        refine hK.out _ _ ⟨Kc2.out, Ka2.out⟩ (fun hHeld => ?_)
        clear hK K
        refine norm_ (a' := ?_) ?_ ?_
        rotate_left
        · show Act.put _ (some 48) _ = _
          simp only [Act.put, List.setIfInBounds_toArray, List.set_cons_zero, List.set_cons_succ, i64_w, i32_w]
          rfl
        refine one_ (i := 13) (N := some 9) #[true, true, true, true, true, true, true, true, true, true, true, true, true, true, false] rfl rfl (one_of HT_.out (by kernel_rfl)) (by decide) (fun K hK => ?_)
        refine value_ (w1 := ?_) (v := ?_) (by rfl) rfl ?_ ?_
        rotate_left 2
        · go_simp
          constructor
          · rfl
          · rfl
        have Kc3 : Hid ((u12.alloc (.cells #[.int .i64 0, .int .i64 0, .int .i64 0] 99 (0, 0))).heap[w.heap.size]? = some (.cells #[.int .i64 c0, .int .i64 c1, .float .f64 c2, .int .i64 c3, .int .i64 c4, .int .i64 c5, .int .i64 c6, .int .i64 c7, .int .i64 c8, .bool c9, .bool c10] 95 (0, 0))) := Lib.hid (blk_alloc (by exact Kc2.out) _)
        have Ka3 : Hid ((u12.alloc (.cells #[.int .i64 0, .int .i64 0, .int .i64 0] 99 (0, 0))).heap[w.heap.size + 1]? = some (.cells #[.int .i64 a0, .int .i64 a1, .int .i64 a2] 96 (0, 0))) := Lib.hid (blk_alloc (by exact Ka2.out) _)
        have Ks3 : Hid ((u12.alloc (.cells #[.int .i64 0, .int .i64 0, .int .i64 0] 99 (0, 0))).heap[u12.heap.size]? = some (.cells #[.int .i64 0, .int .i64 0, .int .i64 0] 99 (0, 0))) := Lib.hid (new_at _ _ _ (by simp))
        have BB3 : Hid (Below w.heap.size w (u12.alloc (.cells #[.int .i64 0, .int .i64 0, .int .i64 0] 99 (0, 0)))) := Lib.hid (Below.alloc (by exact BB2.out) BB2.out.size _)
        have Ls_c : Hid (w.heap.size < u12.heap.size) := Lib.hid (by have := blk_lt Kc2.out; simpa using this)
        have Ls_a : Hid (w.heap.size + 1 < u12.heap.size) := Lib.hid (by have := blk_lt Ka2.out; simpa using this)
        have Ls : Hid (w.heap.size ≤ u12.heap.size) := Lib.hid (by have := BB2.out.size; simpa using this)
        refine hK.out _ _ ⟨Kc3.out, Ka3.out⟩ (fun hHeld => ?_)
        clear hK K
        refine norm_ (a' := ?_) ?_ ?_
        rotate_left
        · show Act.put _ (some 9) _ = _
          simp only [Act.put, List.setIfInBounds_toArray, List.set_cons_zero, List.set_cons_succ, i64_w, i32_w]
          rfl
        exact norm_ (by simp only [putAll, Act.put, List.setIfInBounds_toArray, List.set_cons_zero, List.set_cons_succ]) (hCont u12.heap.size _ ⟨Kc3.out, Ka3.out, Ks3.out, Ls_c.out, Ls_a.out, Ls.out, BB3.out⟩)
      · skip
        refine value_ (w1 := ?_) (v := ?_) (by rfl) rfl ?_ ?_
        rotate_left 2
        · go_simp
          constructor
          · rfl
          · rfl
        have Kc2 : Hid ((u3.alloc (.cells #[.int .i64 0, .int .i64 0, .int .i64 0] 99 (0, 0))).heap[w.heap.size]? = some (.cells #[.int .i64 c0, .int .i64 c1, .float .f64 c2, .int .i64 c3, .int .i64 c4, .int .i64 c5, .int .i64 c6, .int .i64 c7, .int .i64 c8, .bool c9, .bool c10] 95 (0, 0))) := Lib.hid (blk_alloc (by exact Kc1.out) _)
        have Ka2 : Hid ((u3.alloc (.cells #[.int .i64 0, .int .i64 0, .int .i64 0] 99 (0, 0))).heap[w.heap.size + 1]? = some (.cells #[.int .i64 a0, .int .i64 a1, .int .i64 a2] 96 (0, 0))) := Lib.hid (blk_alloc (by exact Ka1.out) _)
        have Ks2 : Hid ((u3.alloc (.cells #[.int .i64 0, .int .i64 0, .int .i64 0] 99 (0, 0))).heap[u3.heap.size]? = some (.cells #[.int .i64 0, .int .i64 0, .int .i64 0] 99 (0, 0))) := Lib.hid (new_at _ _ _ (by simp))
        have BB2 : Hid (Below w.heap.size w (u3.alloc (.cells #[.int .i64 0, .int .i64 0, .int .i64 0] 99 (0, 0)))) := Lib.hid (Below.alloc (by exact BB1.out) BB1.out.size _)
        have Ls_c : Hid (w.heap.size < u3.heap.size) := Lib.hid (by have := blk_lt Kc1.out; simpa using this)
        have Ls_a : Hid (w.heap.size + 1 < u3.heap.size) := Lib.hid (by have := blk_lt Ka1.out; simpa using this)
        have Ls : Hid (w.heap.size ≤ u3.heap.size) := Lib.hid (by have := BB1.out.size; simpa using this)
        refine hK.out _ _ ⟨Kc2.out, Ka2.out⟩ (fun hHeld => ?_)
        clear hK K
        refine norm_ (a' := ?_) ?_ ?_
        rotate_left
        · show Act.put _ (some 9) _ = _
          simp only [Act.put, List.setIfInBounds_toArray, List.set_cons_zero, List.set_cons_succ, i64_w, i32_w]
          rfl
        refine one_ (i := 12) (N := some 48) #[true, true, true, true, true, true, true, true, true, true, true, true, true, true, false] rfl rfl (one_of HT_.out (by kernel_rfl)) (by decide) (fun K hK => ?_)
        refine goes_ Try.func89 (by kernel_rfl) rfl #[.agg #[.int .i64 n0, .int .i64 n1, .int .i64 n2], .agg #[.int .i64 c0, .int .i64 c1, .float .f64 c2, .int .i64 c3, .int .i64 c4, .int .i64 c5, .int .i64 c6, .int .i64 c7, .int .i64 c8, .bool c9, .bool c10], .int .i64 a1, .int .i64 nw] (by rfl) rfl rfl (by simp only [List.map_toArray, List.map_cons, List.map_nil]; rfl) ?_
        with_reducible refine (HS.out _).mono ?_
        rintro e u12 ⟨rfl, hb⟩
        have Kc3 : Hid (u12.heap[w.heap.size]? = some (.cells #[.int .i64 c0, .int .i64 c1, .float .f64 c2, .int .i64 c3, .int .i64 c4, .int .i64 c5, .int .i64 c6, .int .i64 c7, .int .i64 c8, .bool c9, .bool c10] 95 (0, 0))) := Lib.hid (blk_below (by exact Kc2.out) hb)
        have Ka3 : Hid (u12.heap[w.heap.size + 1]? = some (.cells #[.int .i64 a0, .int .i64 a1, .int .i64 a2] 96 (0, 0))) := Lib.hid (blk_below (by exact Ka2.out) hb)
        have Ks3 : Hid (u12.heap[u3.heap.size]? = some (.cells #[.int .i64 0, .int .i64 0, .int .i64 0] 99 (0, 0))) := Lib.hid (blk_below (by exact Ks2.out) hb)
        have BB3 : Hid (Below w.heap.size w u12) := Lib.hid (Below.trans (by exact BB2.out) (hb.mono (by have := BB2.out.size; simpa using this)))
        clear hb
        refine ⟨_, rfl, ?_⟩
        refine hK.out _ _ ⟨Kc3.out, Ka3.out⟩ (fun hHeld => ?_)
        clear hK K
        refine norm_ (a' := ?_) ?_ ?_
        rotate_left
        · show Act.put _ (some 48) _ = _
          simp only [Act.put, List.setIfInBounds_toArray, List.set_cons_zero, List.set_cons_succ, i64_w, i32_w]
          rfl
        exact norm_ (by simp only [putAll, Act.put, List.setIfInBounds_toArray, List.set_cons_zero, List.set_cons_succ]) (hCont u3.heap.size _ ⟨Kc3.out, Ka3.out, Ks3.out, Ls_c.out, Ls_a.out, Ls.out, BB3.out⟩)
    · skip
      refine value_ (w1 := ?_) (v := ?_) (by rfl) rfl ?_ ?_
      rotate_left 2
      · go_simp
        constructor
        · rfl
        · rfl
      have Kc1 : Hid ((wd.alloc (.cells #[.int .i64 0, .int .i64 0, .int .i64 0] 99 (0, 0))).heap[w.heap.size]? = some (.cells #[.int .i64 c0, .int .i64 c1, .float .f64 c2, .int .i64 c3, .int .i64 c4, .int .i64 c5, .int .i64 c6, .int .i64 c7, .int .i64 c8, .bool c9, .bool c10] 95 (0, 0))) := Lib.hid (blk_alloc (by exact Kc0.out) _)
      have Ka1 : Hid ((wd.alloc (.cells #[.int .i64 0, .int .i64 0, .int .i64 0] 99 (0, 0))).heap[w.heap.size + 1]? = some (.cells #[.int .i64 a0, .int .i64 a1, .int .i64 a2] 96 (0, 0))) := Lib.hid (blk_alloc (by exact Ka0.out) _)
      have Ks1 : Hid ((wd.alloc (.cells #[.int .i64 0, .int .i64 0, .int .i64 0] 99 (0, 0))).heap[wd.heap.size]? = some (.cells #[.int .i64 0, .int .i64 0, .int .i64 0] 99 (0, 0))) := Lib.hid (new_at _ _ _ (by simp))
      have BB1 : Hid (Below w.heap.size w (wd.alloc (.cells #[.int .i64 0, .int .i64 0, .int .i64 0] 99 (0, 0)))) := Lib.hid (Below.alloc (by exact BB0.out) BB0.out.size _)
      have Ls_c : Hid (w.heap.size < wd.heap.size) := Lib.hid (by have := blk_lt Kc0.out; simpa using this)
      have Ls_a : Hid (w.heap.size + 1 < wd.heap.size) := Lib.hid (by have := blk_lt Ka0.out; simpa using this)
      have Ls : Hid (w.heap.size ≤ wd.heap.size) := Lib.hid (by have := BB0.out.size; simpa using this)
      refine hK.out _ _ ⟨Kc1.out, Ka1.out⟩ (fun hHeld => ?_)
      clear hK K
      refine norm_ (a' := ?_) ?_ ?_
      rotate_left
      · show Act.put _ (some 9) _ = _
        simp only [Act.put, List.setIfInBounds_toArray, List.set_cons_zero, List.set_cons_succ, i64_w, i32_w]
        rfl
      refine one_ (i := 3) (N := some 39) #[true, true, true, true, true, true, true, true, true, true, true, true, false, true, false] rfl rfl (one_of HT_.out (by kernel_rfl)) (by decide) (fun K hK => ?_)
      refine goes_ Try.func90 (by kernel_rfl) rfl #[.agg #[.int .i64 c0, .int .i64 c1, .float .f64 c2, .int .i64 c3, .int .i64 c4, .int .i64 c5, .int .i64 c6, .int .i64 c7, .int .i64 c8, .bool c9, .bool c10], .int .i64 a0] (by rfl) rfl rfl (by simp only [List.map_toArray, List.map_cons, List.map_nil]; rfl) ?_
      with_reducible refine (HN.out _).mono ?_
      rintro e u3 ⟨rfl, hb⟩
      have Kc2 : Hid (u3.heap[w.heap.size]? = some (.cells #[.int .i64 c0, .int .i64 c1, .float .f64 c2, .int .i64 c3, .int .i64 c4, .int .i64 c5, .int .i64 c6, .int .i64 c7, .int .i64 c8, .bool c9, .bool c10] 95 (0, 0))) := Lib.hid (blk_below (by exact Kc1.out) hb)
      have Ka2 : Hid (u3.heap[w.heap.size + 1]? = some (.cells #[.int .i64 a0, .int .i64 a1, .int .i64 a2] 96 (0, 0))) := Lib.hid (blk_below (by exact Ka1.out) hb)
      have Ks2 : Hid (u3.heap[wd.heap.size]? = some (.cells #[.int .i64 0, .int .i64 0, .int .i64 0] 99 (0, 0))) := Lib.hid (blk_below (by exact Ks1.out) hb)
      have BB2 : Hid (Below w.heap.size w u3) := Lib.hid (Below.trans (by exact BB1.out) (hb.mono (by have := BB1.out.size; simpa using this)))
      clear hb
      refine ⟨_, rfl, ?_⟩
      refine hK.out _ _ ⟨Kc2.out, Ka2.out⟩ (fun hHeld => ?_)
      clear hK K
      refine norm_ (a' := ?_) ?_ ?_
      rotate_left
      · show Act.put _ (some 39) _ = _
        simp only [Act.put, List.setIfInBounds_toArray, List.set_cons_zero, List.set_cons_succ, i64_w, i32_w]
        rfl
      refine one_ (i := 12) (N := some 48) #[true, true, true, true, true, true, true, true, true, true, true, true, true, true, false] rfl rfl (one_of HT_.out (by kernel_rfl)) (by decide) (fun K hK => ?_)
      refine goes_ Try.func89 (by kernel_rfl) rfl #[.agg #[.int .i64 n0, .int .i64 n1, .int .i64 n2], .agg #[.int .i64 c0, .int .i64 c1, .float .f64 c2, .int .i64 c3, .int .i64 c4, .int .i64 c5, .int .i64 c6, .int .i64 c7, .int .i64 c8, .bool c9, .bool c10], .int .i64 a1, .int .i64 nw] (by rfl) rfl rfl (by simp only [List.map_toArray, List.map_cons, List.map_nil]; rfl) ?_
      with_reducible refine (HS.out _).mono ?_
      rintro e u12 ⟨rfl, hb⟩
      have Kc3 : Hid (u12.heap[w.heap.size]? = some (.cells #[.int .i64 c0, .int .i64 c1, .float .f64 c2, .int .i64 c3, .int .i64 c4, .int .i64 c5, .int .i64 c6, .int .i64 c7, .int .i64 c8, .bool c9, .bool c10] 95 (0, 0))) := Lib.hid (blk_below (by exact Kc2.out) hb)
      have Ka3 : Hid (u12.heap[w.heap.size + 1]? = some (.cells #[.int .i64 a0, .int .i64 a1, .int .i64 a2] 96 (0, 0))) := Lib.hid (blk_below (by exact Ka2.out) hb)
      have Ks3 : Hid (u12.heap[wd.heap.size]? = some (.cells #[.int .i64 0, .int .i64 0, .int .i64 0] 99 (0, 0))) := Lib.hid (blk_below (by exact Ks2.out) hb)
      have BB3 : Hid (Below w.heap.size w u12) := Lib.hid (Below.trans (by exact BB2.out) (hb.mono (by have := BB2.out.size; simpa using this)))
      clear hb
      refine ⟨_, rfl, ?_⟩
      refine hK.out _ _ ⟨Kc3.out, Ka3.out⟩ (fun hHeld => ?_)
      clear hK K
      refine norm_ (a' := ?_) ?_ ?_
      rotate_left
      · show Act.put _ (some 48) _ = _
        simp only [Act.put, List.setIfInBounds_toArray, List.set_cons_zero, List.set_cons_succ, i64_w, i32_w]
        rfl
      exact norm_ (by simp only [putAll, Act.put, List.setIfInBounds_toArray, List.set_cons_zero, List.set_cons_succ]) (hCont wd.heap.size _ ⟨Kc3.out, Ka3.out, Ks3.out, Ls_c.out, Ls_a.out, Ls.out, BB3.out⟩)
  rintro gs wj ⟨s0, s1, ks, ls_c, ls_a, ls, bj⟩
  have Ks := Lib.hid ks; have Ls_c := Lib.hid ls_c; have Ls_a := Lib.hid ls_a; have Ls := Lib.hid ls; have BJ := Lib.hid bj; have Kcj := Lib.hid s0; have Kaj := Lib.hid s1
  clear ks ls_c ls_a ls bj
  have hHeld : wj.heap[w.heap.size]? = some (.cells #[.int .i64 c0, .int .i64 c1, .float .f64 c2, .int .i64 c3, .int .i64 c4, .int .i64 c5, .int .i64 c6, .int .i64 c7, .int .i64 c8, .bool c9, .bool c10] 95 (0, 0)) ∧ wj.heap[w.heap.size + 1]? = some (.cells #[.int .i64 a0, .int .i64 a1, .int .i64 a2] 96 (0, 0)) := ⟨s0, s1⟩
  clear s0 s1
  refine norm_ (a' := ?_) ?_ ?_
  rotate_left
  · simp only [putAll, Act.put, List.setIfInBounds_toArray, List.set_cons_zero, List.set_cons_succ]
    rfl
  refine last_ (i := 14) (N := none) #[true, true, true, true, true, true, true, true, true, true, true, true, true, true, true] rfl rfl (one_of HT_.out (by kernel_rfl)) (by decide) (fun K hK => ?_)
  rw [if_pos (by rfl)]
  refine wp_store_row 99 (.tmp 9) (.tmp 48) rfl gs #[.int .i64 q0, .int .i64 q1, .int .i64 q2] rfl rfl 99 _ Ks.out (by exact info_s) (by rfl) (by simp [Value.oneCell']) ?_
  refine hK.out _ _ ?_
  clear hK K
  refine done_ (done_of HT_.out (by kernel_rfl)) ?_
  clear hnw hnx
  have Kcz : Hid ((wj.setRow gs #[.int .i64 q0, .int .i64 q1, .int .i64 q2]).heap[w.heap.size]? = some (.cells #[.int .i64 c0, .int .i64 c1, .float .f64 c2, .int .i64 c3, .int .i64 c4, .int .i64 c5, .int .i64 c6, .int .i64 c7, .int .i64 c8, .bool c9, .bool c10] 95 (0, 0))) := Lib.hid ((setRow_other _ gs _ _ (by have := Ls_c.out; omega)).trans Kcj.out)
  have Kaz : Hid ((wj.setRow gs #[.int .i64 q0, .int .i64 q1, .int .i64 q2]).heap[w.heap.size + 1]? = some (.cells #[.int .i64 a0, .int .i64 a1, .int .i64 a2] 96 (0, 0))) := Lib.hid ((setRow_other _ gs _ _ (by have := Ls_a.out; omega)).trans Kaj.out)
  have Ksz : Hid ((wj.setRow gs #[.int .i64 q0, .int .i64 q1, .int .i64 q2]).heap[gs]? = some (.cells #[.int .i64 q0, .int .i64 q1, .int .i64 q2] 99 (0, 0))) := Lib.hid (setRow_heap _ gs _ _ 99 _ Ks.out)
  have BZ : Hid (Below w.heap.size w (wj.setRow gs #[.int .i64 q0, .int .i64 q1, .int .i64 q2])) := Lib.hid (below_setRow BJ.out Ls.out _)
  have LC : Hid (w.heap.size < gs) := Lib.hid (by have := Ls_c.out; omega)
  have LA : Hid (w.heap.size + 1 < gs) := Lib.hid (by have := Ls_a.out; omega)
  clear BJ hHeld Kcj Kaj Ks Ls_c Ls_a Ls
  revert Kcz Kaz Ksz BZ
  generalize (wj.setRow gs #[.int .i64 q0, .int .i64 q1, .int .i64 q2]) = wz
  intro Kc0 Ka0 Ks0 BB0
  try simp only [Act.put]
  go_wp2_with fail
  refine start_ (n := 37) (S := fun w' => w'.heap[w.heap.size]? = some (.cells #[.int .i64 c0, .int .i64 c1, .float .f64 c2, .int .i64 c3, .int .i64 c4, .int .i64 c5, .int .i64 c6, .int .i64 c7, .int .i64 c8, .bool c9, .bool c10] 95 (0, 0)) ∧ w'.heap[w.heap.size + 1]? = some (.cells #[.int .i64 a0, .int .i64 a1, .int .i64 a2] 96 (0, 0)) ∧ w'.heap[gs]? = some (.cells #[.int .i64 q0, .int .i64 q1, .int .i64 q2] 99 (0, 0))) (ds := []) #[false, false, false, false, false, false, false, false, false, false, false, false, false, false, false, false, false, false, false, false, false, false, false, false, false, false, false, false, false, false, false, false, false, false, false, false, false] (by kernel_rfl) rfl rfl ⟨Kc0.out, Ka0.out, Ks0.out⟩ (fun hHeld => ?_)
  refine with_tabW rgnIdleWaits.tab10 rgnIdleWaits.bits10 (fun HT_ HW_ => ?_)
  have nb_ := Lib.hid (below_drew1 BB0.out); clear BB0; have BB0 := nb_; clear nb_
  have n0_ := Lib.hid (blk_drew Kc0.out); have n1_ := Lib.hid (blk_drew Ka0.out); have n2_ := Lib.hid (blk_drew Ks0.out); clear Kc0 Ka0 Ks0; have Kc0 := n0_; have Ka0 := n1_; have Ks0 := n2_; clear n0_ n1_ n2_
  revert Kc0 Ka0 Ks0 BB0 hHeld
  generalize wz.drew = wd
  intro hHeld BB0 Kc0 Ka0 Ks0
  refine pure_ (i := 0) (N := some 49) (v := ?_) (a' := ?_) #[true, false, false, false, false, false, false, false, false, false, false, false, false, false, false, false, false, false, false, false, false, false, false, false, false, false, false, false, false, false, false, false, false, false, false, false, false] rfl rfl (any_of HT_.out (by kernel_rfl)) (fun _ _ _ h => h) (Or.inl ⟨by rfl, ?_⟩) ?_ ?_
  rotate_left
  · intro w'
    go_simp
    with_reducible rfl
  rotate_left
  · simp only [Act.put, List.setIfInBounds_toArray, List.set_cons_zero, List.set_cons_succ, i64_w, i32_w]
    rfl
  refine pure_ (i := 2) (N := some 51) (v := ?_) (a' := ?_) #[true, false, true, false, false, false, false, false, false, false, false, false, false, false, false, false, false, false, false, false, false, false, false, false, false, false, false, false, false, false, false, false, false, false, false, false, false] rfl rfl (any_of HT_.out (by kernel_rfl)) (fun _ _ _ h => h) (Or.inl ⟨by rfl, ?_⟩) ?_ ?_
  rotate_left
  · intro w'
    go_simp
    with_reducible rfl
  rotate_left
  · simp only [Act.put, List.setIfInBounds_toArray, List.set_cons_zero, List.set_cons_succ, i64_w, i32_w]
    rfl
  refine take_ (i := 1) (N := some 50) (v := ?_) (a' := ?_) #[true, true, true, false, false, false, false, false, false, false, false, false, false, false, false, false, false, false, false, false, false, false, false, false, false, false, false, false, false, false, false, false, false, false, false, false, false] rfl rfl (take_ofW HT_.out HW_.out (by kernel_rfl)) (fun _ _ _ h => h) (Or.inl ⟨by rfl, ?_⟩) hHeld ?_ ?_
  rotate_left
  · rintro w' ⟨s0, s1, s2⟩
    have c_ : w'.cell? ⟨gs, 1, none⟩ = some (.int .i64 q1) := (blk_cell s2 1).trans rfl
    go_simp
    with_reducible rfl
  rotate_left
  · simp only [Act.put, List.setIfInBounds_toArray, List.set_cons_zero, List.set_cons_succ, i64_w, i32_w]
    rfl
  refine take_ (i := 3) (N := some 52) (v := ?_) (a' := ?_) #[true, true, true, true, false, false, false, false, false, false, false, false, false, false, false, false, false, false, false, false, false, false, false, false, false, false, false, false, false, false, false, false, false, false, false, false, false] rfl rfl (take_ofW HT_.out HW_.out (by kernel_rfl)) (fun _ _ _ h => h) (Or.inl ⟨by rfl, ?_⟩) hHeld ?_ ?_
  rotate_left
  · rintro w' ⟨s0, s1, s2⟩
    have c_ : w'.cell? ⟨w.heap.size, 7, none⟩ = some (.int .i64 c7) := (blk_cell s0 7).trans rfl
    go_simp
    with_reducible rfl
  rotate_left
  · simp only [Act.put, List.setIfInBounds_toArray, List.set_cons_zero, List.set_cons_succ, i64_w, i32_w]
    rfl
  refine pure_ (i := 4) (N := some 53) (v := ?_) (a' := ?_) #[true, true, true, true, true, false, false, false, false, false, false, false, false, false, false, false, false, false, false, false, false, false, false, false, false, false, false, false, false, false, false, false, false, false, false, false, false] rfl rfl (any_of HT_.out (by kernel_rfl)) (fun _ _ _ h => h) (Or.inl ⟨by rfl, ?_⟩) ?_ ?_
  rotate_left
  · intro w'
    go_simp
    with_reducible rfl
  rotate_left
  · simp only [Act.put, List.setIfInBounds_toArray, List.set_cons_zero, List.set_cons_succ, i64_w, i32_w]
    rfl
  refine pure_ (i := 5) (N := some 54) (v := ?_) (a' := ?_) #[true, true, true, true, true, true, false, false, false, false, false, false, false, false, false, false, false, false, false, false, false, false, false, false, false, false, false, false, false, false, false, false, false, false, false, false, false] rfl rfl (any_of HT_.out (by kernel_rfl)) (fun _ _ _ h => h) (Or.inl ⟨by rfl, ?_⟩) ?_ ?_
  rotate_left
  · intro w'
    go_simp
    with_reducible rfl
  rotate_left
  · simp only [Act.put, List.setIfInBounds_toArray, List.set_cons_zero, List.set_cons_succ, i64_w, i32_w]
    rfl
  refine pure_ (i := 6) (N := some 55) (v := ?_) (a' := ?_) #[true, true, true, true, true, true, true, false, false, false, false, false, false, false, false, false, false, false, false, false, false, false, false, false, false, false, false, false, false, false, false, false, false, false, false, false, false] rfl rfl (any_of HT_.out (by kernel_rfl)) (fun _ _ _ h => h) (Or.inl ⟨by rfl, ?_⟩) ?_ ?_
  rotate_left
  · intro w'
    go_simp
    with_reducible rfl
  rotate_left
  · simp only [Act.put, List.setIfInBounds_toArray, List.set_cons_zero, List.set_cons_succ, i64_w, i32_w]
    rfl
  refine pure_ (i := 8) (N := some 57) (v := ?_) (a' := ?_) #[true, true, true, true, true, true, true, false, true, false, false, false, false, false, false, false, false, false, false, false, false, false, false, false, false, false, false, false, false, false, false, false, false, false, false, false, false] rfl rfl (any_of HT_.out (by kernel_rfl)) (fun _ _ _ h => h) (Or.inl ⟨by rfl, ?_⟩) ?_ ?_
  rotate_left
  · intro w'
    go_simp
    with_reducible rfl
  rotate_left
  · simp only [Act.put, List.setIfInBounds_toArray, List.set_cons_zero, List.set_cons_succ, i64_w, i32_w]
    rfl
  refine take_ (i := 7) (N := some 56) (v := ?_) (a' := ?_) #[true, true, true, true, true, true, true, true, true, false, false, false, false, false, false, false, false, false, false, false, false, false, false, false, false, false, false, false, false, false, false, false, false, false, false, false, false] rfl rfl (take_ofW HT_.out HW_.out (by kernel_rfl)) (fun _ _ _ h => h) (Or.inl ⟨by rfl, ?_⟩) hHeld ?_ ?_
  rotate_left
  · rintro w' ⟨s0, s1, s2⟩
    have c_ : w'.cell? ⟨gs, 1, none⟩ = some (.int .i64 q1) := (blk_cell s2 1).trans rfl
    go_simp
    with_reducible rfl
  rotate_left
  · simp only [Act.put, List.setIfInBounds_toArray, List.set_cons_zero, List.set_cons_succ, i64_w, i32_w]
    rfl
  refine take_ (i := 9) (N := some 58) (v := ?_) (a' := ?_) #[true, true, true, true, true, true, true, true, true, true, false, false, false, false, false, false, false, false, false, false, false, false, false, false, false, false, false, false, false, false, false, false, false, false, false, false, false] rfl rfl (take_ofW HT_.out HW_.out (by kernel_rfl)) (fun _ _ _ h => h) (Or.inl ⟨by rfl, ?_⟩) hHeld ?_ ?_
  rotate_left
  · rintro w' ⟨s0, s1, s2⟩
    have c_ : w'.cell? ⟨w.heap.size, 8, none⟩ = some (.int .i64 c8) := (blk_cell s0 8).trans rfl
    go_simp
    with_reducible rfl
  rotate_left
  · simp only [Act.put, List.setIfInBounds_toArray, List.set_cons_zero, List.set_cons_succ, i64_w, i32_w]
    rfl
  refine pure_ (i := 10) (N := some 59) (v := ?_) (a' := ?_) #[true, true, true, true, true, true, true, true, true, true, true, false, false, false, false, false, false, false, false, false, false, false, false, false, false, false, false, false, false, false, false, false, false, false, false, false, false] rfl rfl (any_of HT_.out (by kernel_rfl)) (fun _ _ _ h => h) (Or.inl ⟨by rfl, ?_⟩) ?_ ?_
  rotate_left
  · intro w'
    go_simp
    with_reducible rfl
  rotate_left
  · simp only [Act.put, List.setIfInBounds_toArray, List.set_cons_zero, List.set_cons_succ, i64_w, i32_w]
    rfl
  refine pure_ (i := 11) (N := some 60) (v := ?_) (a' := ?_) #[true, true, true, true, true, true, true, true, true, true, true, true, false, false, false, false, false, false, false, false, false, false, false, false, false, false, false, false, false, false, false, false, false, false, false, false, false] rfl rfl (any_of HT_.out (by kernel_rfl)) (fun _ _ _ h => h) (Or.inl ⟨by rfl, ?_⟩) ?_ ?_
  rotate_left
  · intro w'
    go_simp
    with_reducible rfl
  rotate_left
  · simp only [Act.put, List.setIfInBounds_toArray, List.set_cons_zero, List.set_cons_succ, i64_w, i32_w]
    rfl
  refine pure_ (i := 12) (N := some 61) (v := ?_) (a' := ?_) #[true, true, true, true, true, true, true, true, true, true, true, true, true, false, false, false, false, false, false, false, false, false, false, false, false, false, false, false, false, false, false, false, false, false, false, false, false] rfl rfl (any_of HT_.out (by kernel_rfl)) (fun _ _ _ h => h) (Or.inl ⟨by rfl, ?_⟩) ?_ ?_
  rotate_left
  · intro w'
    go_simp
    with_reducible rfl
  rotate_left
  · simp only [Act.put, List.setIfInBounds_toArray, List.set_cons_zero, List.set_cons_succ, i64_w, i32_w]
    rfl
  refine pure_ (i := 13) (N := some 62) (v := ?_) (a' := ?_) #[true, true, true, true, true, true, true, true, true, true, true, true, true, true, false, false, false, false, false, false, false, false, false, false, false, false, false, false, false, false, false, false, false, false, false, false, false] rfl rfl (any_of HT_.out (by kernel_rfl)) (fun _ _ _ h => h) (Or.inl ⟨by rfl, ?_⟩) ?_ ?_
  rotate_left
  · intro w'
    go_simp
    with_reducible rfl
  rotate_left
  · simp only [Act.put, List.setIfInBounds_toArray, List.set_cons_zero, List.set_cons_succ, i64_w, i32_w]
    rfl
  refine pure_ (i := 17) (N := some 66) (v := ?_) (a' := ?_) #[true, true, true, true, true, true, true, true, true, true, true, true, true, true, false, false, false, true, false, false, false, false, false, false, false, false, false, false, false, false, false, false, false, false, false, false, false] rfl rfl (any_of HT_.out (by kernel_rfl)) (fun _ _ _ h => h) (Or.inl ⟨by rfl, ?_⟩) ?_ ?_
  rotate_left
  · intro w'
    go_simp
    with_reducible rfl
  rotate_left
  · simp only [Act.put, List.setIfInBounds_toArray, List.set_cons_zero, List.set_cons_succ, i64_w, i32_w]
    rfl
  refine take_ (i := 14) (N := some 63) (v := ?_) (a' := ?_) #[true, true, true, true, true, true, true, true, true, true, true, true, true, true, true, false, false, true, false, false, false, false, false, false, false, false, false, false, false, false, false, false, false, false, false, false, false] rfl rfl (take_ofW HT_.out HW_.out (by kernel_rfl)) (fun _ _ _ h => h) (Or.inl ⟨by rfl, ?_⟩) hHeld ?_ ?_
  rotate_left
  · rintro w' ⟨s0, s1, s2⟩
    have c_ : w'.cell? ⟨gs, 1, none⟩ = some (.int .i64 q1) := (blk_cell s2 1).trans rfl
    go_simp
    with_reducible rfl
  rotate_left
  · simp only [Act.put, List.setIfInBounds_toArray, List.set_cons_zero, List.set_cons_succ, i64_w, i32_w]
    rfl
  refine pure_ (i := 15) (N := some 64) (v := ?_) (a' := ?_) #[true, true, true, true, true, true, true, true, true, true, true, true, true, true, true, true, false, true, false, false, false, false, false, false, false, false, false, false, false, false, false, false, false, false, false, false, false] rfl rfl (any_of HT_.out (by kernel_rfl)) (fun _ _ _ h => h) (Or.inl ⟨by rfl, ?_⟩) ?_ ?_
  rotate_left
  · intro w'
    go_simp
    with_reducible rfl
  rotate_left
  · simp only [Act.put, List.setIfInBounds_toArray, List.set_cons_zero, List.set_cons_succ, i64_w, i32_w]
    rfl
  refine take_ (i := 16) (N := some 65) (v := ?_) (a' := ?_) #[true, true, true, true, true, true, true, true, true, true, true, true, true, true, true, true, true, true, false, false, false, false, false, false, false, false, false, false, false, false, false, false, false, false, false, false, false] rfl rfl (take_ofW HT_.out HW_.out (by kernel_rfl)) (fun _ _ _ h => h) (Or.inl ⟨by rfl, ?_⟩) hHeld ?_ ?_
  rotate_left
  · rintro w' ⟨s0, s1, s2⟩
    exact (ldrow (P := Try.prog) 99 _ _ Try.underlying99 rfl (by exact info_s) _ _ (.tmp 9) _ rfl (by rfl) w' s2).trans (by with_reducible rfl)
  rotate_left
  · simp only [Act.put, List.setIfInBounds_toArray, List.set_cons_zero, List.set_cons_succ, i64_w, i32_w]
    rfl
  refine take_ (i := 18) (N := some 67) (v := ?_) (a' := ?_) #[true, true, true, true, true, true, true, true, true, true, true, true, true, true, true, true, true, true, true, false, false, false, false, false, false, false, false, false, false, false, false, false, false, false, false, false, false] rfl rfl (take_ofW HT_.out HW_.out (by kernel_rfl)) (fun _ _ _ h => h) (Or.inl ⟨by rfl, ?_⟩) hHeld ?_ ?_
  rotate_left
  · rintro w' ⟨s0, s1, s2⟩
    have c_ : w'.cell? ⟨gs, 0, none⟩ = some (.int .i64 q0) := (blk_cell s2 0).trans rfl
    go_simp
    with_reducible rfl
  rotate_left
  · simp only [Act.put, List.setIfInBounds_toArray, List.set_cons_zero, List.set_cons_succ, i64_w, i32_w]
    rfl
  refine one_ (i := 19) (N := some 68) #[true, true, true, true, true, true, true, true, true, true, true, true, true, true, true, true, true, true, true, true, false, false, false, false, false, false, false, false, false, false, false, false, false, false, false, false, false] rfl rfl (one_of HT_.out (by kernel_rfl)) (by decide) (fun K hK => ?_)
  refine goes_ Try.func91 (by kernel_rfl) rfl #[.agg #[.int .i64 q0, .int .i64 q1, .int .i64 q2], .int .i64 q0] (by rfl) rfl rfl (by simp only [List.map_toArray, List.map_cons, List.map_nil]; rfl) ?_
  with_reducible refine (HO.out _).mono ?_
  rintro e u19 ⟨rfl, hb⟩
  have Kc1 : Hid (u19.heap[w.heap.size]? = some (.cells #[.int .i64 c0, .int .i64 c1, .float .f64 c2, .int .i64 c3, .int .i64 c4, .int .i64 c5, .int .i64 c6, .int .i64 c7, .int .i64 c8, .bool c9, .bool c10] 95 (0, 0))) := Lib.hid (blk_below (by exact Kc0.out) hb)
  have Ka1 : Hid (u19.heap[w.heap.size + 1]? = some (.cells #[.int .i64 a0, .int .i64 a1, .int .i64 a2] 96 (0, 0))) := Lib.hid (blk_below (by exact Ka0.out) hb)
  have Ks1 : Hid (u19.heap[gs]? = some (.cells #[.int .i64 q0, .int .i64 q1, .int .i64 q2] 99 (0, 0))) := Lib.hid (blk_below (by exact Ks0.out) hb)
  have BB1 : Hid (Below w.heap.size w u19) := Lib.hid (Below.trans (by exact BB0.out) (hb.mono (by have := BB0.out.size; simpa using this)))
  clear hb
  refine ⟨_, rfl, ?_⟩
  refine hK.out _ _ ⟨Kc1.out, Ka1.out, Ks1.out⟩ (fun hHeld => ?_)
  clear hK K
  refine norm_ (a' := ?_) ?_ ?_
  rotate_left
  · show Act.put _ (some 68) _ = _
    simp only [Act.put, List.setIfInBounds_toArray, List.set_cons_zero, List.set_cons_succ, i64_w, i32_w]
    rfl
  refine pure_ (i := 20) (N := some 69) (v := ?_) (a' := ?_) #[true, true, true, true, true, true, true, true, true, true, true, true, true, true, true, true, true, true, true, true, true, false, false, false, false, false, false, false, false, false, false, false, false, false, false, false, false] rfl rfl (any_of HT_.out (by kernel_rfl)) (fun _ _ _ h => h) (Or.inl ⟨by rfl, ?_⟩) ?_ ?_
  rotate_left
  · intro w'
    go_simp
    with_reducible rfl
  rotate_left
  · simp only [Act.put, List.setIfInBounds_toArray, List.set_cons_zero, List.set_cons_succ, i64_w, i32_w]
    rfl
  refine pure_ (i := 21) (N := some 70) (v := ?_) (a' := ?_) #[true, true, true, true, true, true, true, true, true, true, true, true, true, true, true, true, true, true, true, true, true, true, false, false, false, false, false, false, false, false, false, false, false, false, false, false, false] rfl rfl (any_of HT_.out (by kernel_rfl)) (fun _ _ _ h => h) (Or.inl ⟨by rfl, ?_⟩) ?_ ?_
  rotate_left
  · intro w'
    go_simp
    with_reducible rfl
  rotate_left
  · simp only [Act.put, List.setIfInBounds_toArray, List.set_cons_zero, List.set_cons_succ, i64_w, i32_w]
    rfl
  refine pure_ (i := 22) (N := some 71) (v := undef) (a' := ?_) #[true, true, true, true, true, true, true, true, true, true, true, true, true, true, true, true, true, true, true, true, true, true, true, false, false, false, false, false, false, false, false, false, false, false, false, false, false] rfl rfl (any_of HT_.out (by kernel_rfl)) (fun _ _ _ h => h) (Or.inr ⟨by rfl, rfl⟩) ?_ ?_
  rotate_left
  · simp only [Act.put, List.setIfInBounds_toArray, List.set_cons_zero, List.set_cons_succ, i64_w, i32_w]
    rfl
  refine pure_ (i := 23) (N := some 72) (v := undef) (a' := ?_) #[true, true, true, true, true, true, true, true, true, true, true, true, true, true, true, true, true, true, true, true, true, true, true, true, false, false, false, false, false, false, false, false, false, false, false, false, false] rfl rfl (any_of HT_.out (by kernel_rfl)) (fun _ _ _ h => h) (Or.inr ⟨by rfl, rfl⟩) ?_ ?_
  rotate_left
  · simp only [Act.put, List.setIfInBounds_toArray, List.set_cons_zero, List.set_cons_succ, i64_w, i32_w]
    rfl
  refine pure_ (i := 24) (N := some 73) (v := undef) (a' := ?_) #[true, true, true, true, true, true, true, true, true, true, true, true, true, true, true, true, true, true, true, true, true, true, true, true, true, false, false, false, false, false, false, false, false, false, false, false, false] rfl rfl (any_of HT_.out (by kernel_rfl)) (fun _ _ _ h => h) (Or.inr ⟨by rfl, rfl⟩) ?_ ?_
  rotate_left
  · simp only [Act.put, List.setIfInBounds_toArray, List.set_cons_zero, List.set_cons_succ, i64_w, i32_w]
    rfl
  refine pure_ (i := 25) (N := some 74) (v := ?_) (a' := ?_) #[true, true, true, true, true, true, true, true, true, true, true, true, true, true, true, true, true, true, true, true, true, true, true, true, true, true, false, false, false, false, false, false, false, false, false, false, false] rfl rfl (any_of HT_.out (by kernel_rfl)) (fun _ _ _ h => h) (Or.inl ⟨by rfl, ?_⟩) ?_ ?_
  rotate_left
  · intro w'
    go_simp
    with_reducible rfl
  rotate_left
  · simp only [Act.put, List.setIfInBounds_toArray, List.set_cons_zero, List.set_cons_succ, i64_w, i32_w]
    rfl
  refine pure_ (i := 26) (N := some 75) (v := ?_) (a' := ?_) #[true, true, true, true, true, true, true, true, true, true, true, true, true, true, true, true, true, true, true, true, true, true, true, true, true, true, true, false, false, false, false, false, false, false, false, false, false] rfl rfl (any_of HT_.out (by kernel_rfl)) (fun _ _ _ h => h) (Or.inl ⟨by rfl, ?_⟩) ?_ ?_
  rotate_left
  · intro w'
    go_simp
    with_reducible rfl
  rotate_left
  · simp only [Act.put, List.setIfInBounds_toArray, List.set_cons_zero, List.set_cons_succ, i64_w, i32_w]
    rfl
  refine pure_ (i := 27) (N := some 76) (v := ?_) (a' := ?_) #[true, true, true, true, true, true, true, true, true, true, true, true, true, true, true, true, true, true, true, true, true, true, true, true, true, true, true, true, false, false, false, false, false, false, false, false, false] rfl rfl (any_of HT_.out (by kernel_rfl)) (fun _ _ _ h => h) (Or.inl ⟨by rfl, ?_⟩) ?_ ?_
  rotate_left
  · intro w'
    go_simp
    with_reducible rfl
  rotate_left
  · simp only [Act.put, List.setIfInBounds_toArray, List.set_cons_zero, List.set_cons_succ, i64_w, i32_w]
    rfl
  refine pure_ (i := 28) (N := some 77) (v := ?_) (a' := ?_) #[true, true, true, true, true, true, true, true, true, true, true, true, true, true, true, true, true, true, true, true, true, true, true, true, true, true, true, true, true, false, false, false, false, false, false, false, false] rfl rfl (any_of HT_.out (by kernel_rfl)) (fun _ _ _ h => h) (Or.inl ⟨by rfl, ?_⟩) ?_ ?_
  rotate_left
  · intro w'
    go_simp
    with_reducible rfl
  rotate_left
  · simp only [Act.put, List.setIfInBounds_toArray, List.set_cons_zero, List.set_cons_succ, i64_w, i32_w]
    rfl
  refine take_ (i := 29) (N := some 78) (v := ?_) (a' := ?_) #[true, true, true, true, true, true, true, true, true, true, true, true, true, true, true, true, true, true, true, true, true, true, true, true, true, true, true, true, true, true, false, false, false, false, false, false, false] rfl rfl (take_ofW HT_.out HW_.out (by kernel_rfl)) (fun _ _ _ h => h) (Or.inl ⟨by rfl, ?_⟩) hHeld ?_ ?_
  rotate_left
  · rintro w' ⟨s0, s1, s2⟩
    have c_ : w'.cell? ⟨gs, 2, none⟩ = some (.int .i64 q2) := (blk_cell s2 2).trans rfl
    go_simp
    with_reducible rfl
  rotate_left
  · simp only [Act.put, List.setIfInBounds_toArray, List.set_cons_zero, List.set_cons_succ, i64_w, i32_w]
    rfl
  refine pure_ (i := 30) (N := some 79) (v := ?_) (a' := ?_) #[true, true, true, true, true, true, true, true, true, true, true, true, true, true, true, true, true, true, true, true, true, true, true, true, true, true, true, true, true, true, true, false, false, false, false, false, false] rfl rfl (any_of HT_.out (by kernel_rfl)) (fun _ _ _ h => h) (Or.inl ⟨by rfl, ?_⟩) ?_ ?_
  rotate_left
  · intro w'
    go_simp
    with_reducible rfl
  rotate_left
  · simp only [Act.put, List.setIfInBounds_toArray, List.set_cons_zero, List.set_cons_succ, i64_w, i32_w]
    rfl
  refine pure_ (i := 31) (N := some 80) (v := ?_) (a' := ?_) #[true, true, true, true, true, true, true, true, true, true, true, true, true, true, true, true, true, true, true, true, true, true, true, true, true, true, true, true, true, true, true, true, false, false, false, false, false] rfl rfl (any_of HT_.out (by kernel_rfl)) (fun _ _ _ h => h) (Or.inl ⟨by rfl, ?_⟩) ?_ ?_
  rotate_left
  · intro w'
    go_simp
    with_reducible rfl
  rotate_left
  · simp only [Act.put, List.setIfInBounds_toArray, List.set_cons_zero, List.set_cons_succ, i64_w, i32_w]
    rfl
  refine pure_ (i := 32) (N := some 81) (v := ?_) (a' := ?_) #[true, true, true, true, true, true, true, true, true, true, true, true, true, true, true, true, true, true, true, true, true, true, true, true, true, true, true, true, true, true, true, true, true, false, false, false, false] rfl rfl (any_of HT_.out (by kernel_rfl)) (fun _ _ _ h => h) (Or.inl ⟨by rfl, ?_⟩) ?_ ?_
  rotate_left
  · intro w'
    go_simp
    with_reducible rfl
  rotate_left
  · simp only [Act.put, List.setIfInBounds_toArray, List.set_cons_zero, List.set_cons_succ, i64_w, i32_w]
    rfl
  refine take_ (i := 33) (N := some 82) (v := ?_) (a' := ?_) #[true, true, true, true, true, true, true, true, true, true, true, true, true, true, true, true, true, true, true, true, true, true, true, true, true, true, true, true, true, true, true, true, true, true, false, false, false] rfl rfl (take_ofW HT_.out HW_.out (by kernel_rfl)) (fun _ _ _ h => h) (Or.inl ⟨by rfl, ?_⟩) hHeld ?_ ?_
  rotate_left
  · rintro w' ⟨s0, s1, s2⟩
    have c_ : w'.cell? ⟨gs, 1, none⟩ = some (.int .i64 q1) := (blk_cell s2 1).trans rfl
    go_simp
    with_reducible rfl
  rotate_left
  · simp only [Act.put, List.setIfInBounds_toArray, List.set_cons_zero, List.set_cons_succ, i64_w, i32_w]
    rfl
  refine pure_ (i := 34) (N := some 83) (v := ?_) (a' := ?_) #[true, true, true, true, true, true, true, true, true, true, true, true, true, true, true, true, true, true, true, true, true, true, true, true, true, true, true, true, true, true, true, true, true, true, true, false, false] rfl rfl (any_of HT_.out (by kernel_rfl)) (fun _ _ _ h => h) (Or.inl ⟨by rfl, ?_⟩) ?_ ?_
  rotate_left
  · intro w'
    go_simp
    with_reducible rfl
  rotate_left
  · simp only [Act.put, List.setIfInBounds_toArray, List.set_cons_zero, List.set_cons_succ, i64_w, i32_w]
    rfl
  refine pure_ (i := 35) (N := some 84) (v := ?_) (a' := ?_) #[true, true, true, true, true, true, true, true, true, true, true, true, true, true, true, true, true, true, true, true, true, true, true, true, true, true, true, true, true, true, true, true, true, true, true, true, false] rfl rfl (any_of HT_.out (by kernel_rfl)) (fun _ _ _ h => h) (Or.inl ⟨by rfl, ?_⟩) ?_ ?_
  rotate_left
  · intro w'
    go_simp
    with_reducible rfl
  rotate_left
  · simp only [Act.put, List.setIfInBounds_toArray, List.set_cons_zero, List.set_cons_succ, i64_w, i32_w]
    rfl
  refine pure_ (i := 36) (N := some 85) (v := ?_) (a' := ?_) #[true, true, true, true, true, true, true, true, true, true, true, true, true, true, true, true, true, true, true, true, true, true, true, true, true, true, true, true, true, true, true, true, true, true, true, true, true] rfl rfl (any_of HT_.out (by kernel_rfl)) (fun _ _ _ h => h) (Or.inl ⟨by rfl, ?_⟩) ?_ ?_
  rotate_left
  · intro w'
    go_simp
    with_reducible rfl
  rotate_left
  · simp only [Act.put, List.setIfInBounds_toArray, List.set_cons_zero, List.set_cons_succ, i64_w, i32_w]
    rfl
  refine done_ (done_of HT_.out (by kernel_rfl)) ?_
  have cs1 : u19.cell? ⟨gs, 1, none⟩ = some (.int .i64 q1) := (blk_cell Ks1.out 1).trans rfl
  have cs21 : u19.cell? ⟨gs, 2, none⟩ = some (.int .i64 q2) := (blk_cell Ks1.out 2).trans rfl
  have ca11 : u19.cell? ⟨w.heap.size + 1, 1, none⟩ = some (.int .i64 a1) := (blk_cell Ka1.out 1).trans rfl
  go_wp2_with (first | ((with_reducible refine gate_dst (N := 95) rfl ?_); refine wpList_load_row rfl 99 (.tmp 9) rfl gs rfl 99 #[.int .i64 q0, .int .i64 q1, .int .i64 q2] (0, 0) _ Ks1.out Try.underlying99 rfl info_s ?_; refine wpList_load_row rfl 95 (.tmp 3) rfl (w.heap.size) rfl 95 #[.int .i64 c0, .int .i64 c1, .float .f64 c2, .int .i64 c3, .int .i64 c4, .int .i64 c5, .int .i64 c6, .int .i64 c7, .int .i64 c8, .bool c9, .bool c10] (0, 0) _ Kc1.out Try.underlying95 rfl info_c ?_))
  simp only [HNT.out, HNTX.out]
  (with_reducible refine (HT.out _).mono ?_); rintro e w2_ ⟨rfl, hb⟩
  have Kc2_ := Lib.hid (blk_below Kc1.out hb)
  have Ka2_ := Lib.hid (blk_below Ka1.out hb)
  have Ks2_ := Lib.hid (blk_below Ks1.out hb)
  have BB2_ : Hid (Below w.heap.size w w2_) := Lib.hid (Below.trans BB1.out (hb.mono BB1.out.size))
  clear hb cs21 ca11
  have LC2 : Hid (w.heap.size < w2_.heap.size) := Lib.hid (blk_lt Kc2_.out); have LA2 : Hid (w.heap.size + 1 < w2_.heap.size) := Lib.hid (blk_lt Ka2_.out); have LS2 : Hid (gs < w2_.heap.size) := Lib.hid (blk_lt Ks2_.out); have LW2 := Lib.hid BB2_.out.size
  have Kc2 : Hid (((w2_.alloc (.cells #[.int .i64 0, .int .i64 0, .int .i64 0] 99 (0, 0))).setRow w2_.heap.size #[.int .i64 p0, .int .i64 p1, .int .i64 p2]).heap[w.heap.size]? = some (.cells #[.int .i64 c0, .int .i64 c1, .float .f64 c2, .int .i64 c3, .int .i64 c4, .int .i64 c5, .int .i64 c6, .int .i64 c7, .int .i64 c8, .bool c9, .bool c10] 95 (0, 0))) := Lib.hid ((setRow_other _ _ _ _ (by have := LC2.out; omega)).trans (blk_alloc Kc2_.out _))
  have Ka2 : Hid (((w2_.alloc (.cells #[.int .i64 0, .int .i64 0, .int .i64 0] 99 (0, 0))).setRow w2_.heap.size #[.int .i64 p0, .int .i64 p1, .int .i64 p2]).heap[w.heap.size + 1]? = some (.cells #[.int .i64 a0, .int .i64 a1, .int .i64 a2] 96 (0, 0))) := Lib.hid ((setRow_other _ _ _ _ (by have := LA2.out; omega)).trans (blk_alloc Ka2_.out _))
  have Ks2 : Hid (((w2_.alloc (.cells #[.int .i64 0, .int .i64 0, .int .i64 0] 99 (0, 0))).setRow w2_.heap.size #[.int .i64 p0, .int .i64 p1, .int .i64 p2]).heap[gs]? = some (.cells #[.int .i64 q0, .int .i64 q1, .int .i64 q2] 99 (0, 0))) := Lib.hid ((setRow_other _ _ _ _ (by have := LS2.out; omega)).trans (blk_alloc Ks2_.out _))
  have Kt2 : Hid (((w2_.alloc (.cells #[.int .i64 0, .int .i64 0, .int .i64 0] 99 (0, 0))).setRow w2_.heap.size #[.int .i64 p0, .int .i64 p1, .int .i64 p2]).heap[w2_.heap.size]? = some (.cells #[.int .i64 p0, .int .i64 p1, .int .i64 p2] 99 (0, 0))) := Lib.hid (setRow_heap _ _ _ _ 99 _ (blk_new w2_ _))
  have BB2 : Hid (Below w.heap.size w ((w2_.alloc (.cells #[.int .i64 0, .int .i64 0, .int .i64 0] 99 (0, 0))).setRow w2_.heap.size #[.int .i64 p0, .int .i64 p1, .int .i64 p2])) := Lib.hid (below_setRow (BB2_.out.alloc LW2.out _) LW2.out _)
  have ct0 : ((w2_.alloc (.cells #[.int .i64 0, .int .i64 0, .int .i64 0] 99 (0, 0))).setRow w2_.heap.size #[.int .i64 p0, .int .i64 p1, .int .i64 p2]).cell? ⟨w2_.heap.size, 0, none⟩ = some (.int .i64 p0) := (blk_cell Kt2.out 0).trans rfl
  have ct1 : ((w2_.alloc (.cells #[.int .i64 0, .int .i64 0, .int .i64 0] 99 (0, 0))).setRow w2_.heap.size #[.int .i64 p0, .int .i64 p1, .int .i64 p2]).cell? ⟨w2_.heap.size, 1, none⟩ = some (.int .i64 p1) := (blk_cell Kt2.out 1).trans rfl
  have ct2 : ((w2_.alloc (.cells #[.int .i64 0, .int .i64 0, .int .i64 0] 99 (0, 0))).setRow w2_.heap.size #[.int .i64 p0, .int .i64 p1, .int .i64 p2]).cell? ⟨w2_.heap.size, 2, none⟩ = some (.int .i64 p2) := (blk_cell Kt2.out 2).trans rfl
  go_wp2_with (first | (refine wpList_store_rowTo rfl 99 (.tmp 10) (.tmp 103) rfl rfl w2_.heap.size #[.int .i64 p0, .int .i64 p1, .int .i64 p2] rfl rfl 99 #[.int .i64 0, .int .i64 0, .int .i64 0] (blk_new w2_ _) info_s rfl (by simp [Value.oneCell']) ?_) | ((with_reducible refine gate_dst (N := 108) rfl ?_); refine wpList_load_row rfl 99 (.tmp 10) rfl w2_.heap.size rfl 99 #[.int .i64 p0, .int .i64 p1, .int .i64 p2] (0, 0) _ Kt2.out Try.underlying99 rfl info_s ?_))
  (with_reducible refine (HP.out _).mono ?_); rintro e w3 ⟨rfl, hb⟩
  have Kc3 := Lib.hid (blk_below Kc2.out hb); have Ka3 := Lib.hid (blk_below Ka2.out hb); have Ks3 := Lib.hid (blk_below Ks2.out hb)
  have BB3 : Hid (Below w.heap.size w w3) := Lib.hid (Below.trans BB2.out (hb.mono BB2.out.size))
  clear hb ct0 ct1 ct2 Kc2 Ka2 Ks2 Kt2 BB2
  have cs23 : w3.cell? ⟨gs, 2, none⟩ = some (.int .i64 q2) := (blk_cell Ks3.out 2).trans rfl
  have ca13 : w3.cell? ⟨w.heap.size + 1, 1, none⟩ = some (.int .i64 a1) := (blk_cell Ka3.out 1).trans rfl
  go_wp2_with (first | ((with_reducible refine gate_dst (N := 113) rfl ?_); refine wpList_load_row rfl 99 (.tmp 9) rfl gs rfl 99 #[.int .i64 q0, .int .i64 q1, .int .i64 q2] (0, 0) _ Ks3.out Try.underlying99 rfl info_s ?_; refine wpList_load_row rfl 95 (.tmp 3) rfl (w.heap.size) rfl 95 #[.int .i64 c0, .int .i64 c1, .float .f64 c2, .int .i64 c3, .int .i64 c4, .int .i64 c5, .int .i64 c6, .int .i64 c7, .int .i64 c8, .bool c9, .bool c10] (0, 0) _ Kc3.out Try.underlying95 rfl info_c ?_))
  simp only [HNU.out, HNUX.out]
  (with_reducible refine (HU.out _).mono ?_); rintro e w4_ ⟨rfl, hb⟩
  have Kc4_ := Lib.hid (blk_below Kc3.out hb)
  have Ka4_ := Lib.hid (blk_below Ka3.out hb)
  have Ks4_ := Lib.hid (blk_below Ks3.out hb)
  have BB4_ : Hid (Below w.heap.size w w4_) := Lib.hid (Below.trans BB3.out (hb.mono BB3.out.size))
  clear hb cs23 ca13
  have LC4 : Hid (w.heap.size < w4_.heap.size) := Lib.hid (blk_lt Kc4_.out); have LA4 : Hid (w.heap.size + 1 < w4_.heap.size) := Lib.hid (blk_lt Ka4_.out); have LS4 : Hid (gs < w4_.heap.size) := Lib.hid (blk_lt Ks4_.out); have LW4 := Lib.hid BB4_.out.size
  have Kc4 : Hid (((w4_.alloc (.cells #[.int .i64 0, .int .i64 0, .int .i64 0] 99 (0, 0))).setRow w4_.heap.size #[.int .i64 z0, .int .i64 z1, .int .i64 z2]).heap[w.heap.size]? = some (.cells #[.int .i64 c0, .int .i64 c1, .float .f64 c2, .int .i64 c3, .int .i64 c4, .int .i64 c5, .int .i64 c6, .int .i64 c7, .int .i64 c8, .bool c9, .bool c10] 95 (0, 0))) := Lib.hid ((setRow_other _ _ _ _ (by have := LC4.out; omega)).trans (blk_alloc Kc4_.out _))
  have Ka4 : Hid (((w4_.alloc (.cells #[.int .i64 0, .int .i64 0, .int .i64 0] 99 (0, 0))).setRow w4_.heap.size #[.int .i64 z0, .int .i64 z1, .int .i64 z2]).heap[w.heap.size + 1]? = some (.cells #[.int .i64 a0, .int .i64 a1, .int .i64 a2] 96 (0, 0))) := Lib.hid ((setRow_other _ _ _ _ (by have := LA4.out; omega)).trans (blk_alloc Ka4_.out _))
  have Ks4 : Hid (((w4_.alloc (.cells #[.int .i64 0, .int .i64 0, .int .i64 0] 99 (0, 0))).setRow w4_.heap.size #[.int .i64 z0, .int .i64 z1, .int .i64 z2]).heap[gs]? = some (.cells #[.int .i64 q0, .int .i64 q1, .int .i64 q2] 99 (0, 0))) := Lib.hid ((setRow_other _ _ _ _ (by have := LS4.out; omega)).trans (blk_alloc Ks4_.out _))
  have Ku4 : Hid (((w4_.alloc (.cells #[.int .i64 0, .int .i64 0, .int .i64 0] 99 (0, 0))).setRow w4_.heap.size #[.int .i64 z0, .int .i64 z1, .int .i64 z2]).heap[w4_.heap.size]? = some (.cells #[.int .i64 z0, .int .i64 z1, .int .i64 z2] 99 (0, 0))) := Lib.hid (setRow_heap _ _ _ _ 99 _ (blk_new w4_ _))
  have BB4 : Hid (Below w.heap.size w ((w4_.alloc (.cells #[.int .i64 0, .int .i64 0, .int .i64 0] 99 (0, 0))).setRow w4_.heap.size #[.int .i64 z0, .int .i64 z1, .int .i64 z2])) := Lib.hid (below_setRow (BB4_.out.alloc LW4.out _) LW4.out _)
  have cu0 : ((w4_.alloc (.cells #[.int .i64 0, .int .i64 0, .int .i64 0] 99 (0, 0))).setRow w4_.heap.size #[.int .i64 z0, .int .i64 z1, .int .i64 z2]).cell? ⟨w4_.heap.size, 0, none⟩ = some (.int .i64 z0) := (blk_cell Ku4.out 0).trans rfl
  have cu1 : ((w4_.alloc (.cells #[.int .i64 0, .int .i64 0, .int .i64 0] 99 (0, 0))).setRow w4_.heap.size #[.int .i64 z0, .int .i64 z1, .int .i64 z2]).cell? ⟨w4_.heap.size, 1, none⟩ = some (.int .i64 z1) := (blk_cell Ku4.out 1).trans rfl
  have cu2 : ((w4_.alloc (.cells #[.int .i64 0, .int .i64 0, .int .i64 0] 99 (0, 0))).setRow w4_.heap.size #[.int .i64 z0, .int .i64 z1, .int .i64 z2]).cell? ⟨w4_.heap.size, 2, none⟩ = some (.int .i64 z2) := (blk_cell Ku4.out 2).trans rfl
  go_wp2_with (first | (refine wpList_store_rowTo rfl 99 (.tmp 11) (.tmp 120) rfl rfl w4_.heap.size #[.int .i64 z0, .int .i64 z1, .int .i64 z2] rfl rfl 99 #[.int .i64 0, .int .i64 0, .int .i64 0] (blk_new w4_ _) info_s rfl (by simp [Value.oneCell']) ?_))
  (with_reducible refine (HL.out _).mono ?_); rintro e w5 ⟨rfl, hb⟩
  go_wp2
  go_ret
  exact ⟨rfl, Below.trans BB4.out (hb.mono BB4.out.size)⟩
end Go.Proofs.Ytclfambjkolckaa.IdleWW
