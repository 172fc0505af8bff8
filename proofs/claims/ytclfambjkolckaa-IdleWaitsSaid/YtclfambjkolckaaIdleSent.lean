/- idle.Sent, walked by its ways. -/
import Derived.Test.YtclfambjkolckaaWTab
import Derived.Test.YtclfambjkolckaaWMore
import Derived.Lib.Hide
import Derived.Laws.Tables
import Derived.Laws.CopyOwn
import Derived.Test.YtclfambjkolckaaLd
import Derived.Test.YtclfambjkolckaaProg
import Derived.Outline
namespace Go.Proofs.Ytclfambjkolckaa.IdleSent
open Go Go.RowKit Go.Proofs.Ytclfambjkolckaa.Ld Go.Proofs.YtclfambjkolckaaW.PrintWords Go.Proofs.YtclfambjkolckaaW.PrintLast Go.Proofs.YtclfambjkolckaaW.PrintMore
set_option linter.unusedVariables false
set_option linter.unusedSimpArgs false
theorem info_s : (Try.prog.info? 99).map (·.size) = some 3 := by kernel_rfl
theorem info_c : (Try.prog.info? 95).map (·.size) = some 11 := by kernel_rfl
def rgnSent.T4 : Bool × List (List Nat × List Nat) := (true, [([], []), ([0], [0]), ([], []), ([2], [2]), ([], []), ([], []), ([5], [5]), ([3, 4, 6, 1], [3, 4, 6]), ([], []), ([7, 8, 7], [7, 8]), ([1, 9], [1, 9]), ([], []), ([11, 10, 9, 0, 1, 2, 3, 4, 5, 6, 7, 8, 9, 10, 11], [10, 11])])
def rgnSent.B4 : List Nat := [0, 1, 0, 4, 0, 0, 32, 127, 0, 511, 1023, 0, 4095]
theorem rgnSent.tab4 : rtab .any (opsOf Try.f89 4) = rgnSent.T4 := by kernel_rfl
theorem rgnSent.bits4 : waitsOk rgnSent.T4.2 rgnSent.B4 = true := by kernel_rfl
set_option maxRecDepth 100000 in
set_option maxHeartbeats 2000000 in
theorem sent_bad (q0 q1 q2 : Int) (c0 : Int) (c1 : Int) (c2 : Nat) (c3 : Int) (c4 : Int) (c5 : Int) (c6 : Int) (c7 : Int) (c8 : Int) (c9 : Bool) (c10 : Bool) (time now : Int) (w : World) (hr : ∀ w, Calls Try.prog 139 #[.agg #[.int .i64 c0, .int .i64 c1, .float .f64 c2, .int .i64 c3, .int .i64 c4, .int .i64 c5, .int .i64 c6, .int .i64 c7, .int .i64 c8, .bool c9, .bool c10]] w fun e w' => e = .returned (.bool false) ∧ Below w.heap.size w w') :
    Calls Try.prog 89 #[.agg #[.int .i64 q0, .int .i64 q1, .int .i64 q2], .agg #[.int .i64 c0, .int .i64 c1, .float .f64 c2, .int .i64 c3, .int .i64 c4, .int .i64 c5, .int .i64 c6, .int .i64 c7, .int .i64 c8, .bool c9, .bool c10], .int .i64 time, .int .i64 now] w fun e w' => e = .returned (.agg #[.int .i64 q0, .int .i64 q1, .int .i64 q2]) ∧ Below w.heap.size w w' := by
  have HR := Lib.hid hr; clear hr
  go_enter Try.func89, Try.ntmps89
  go_wp2_with fail
  have KsW : Hid ((((w.alloc (.cells #[.int .i64 q0, .int .i64 q1, .int .i64 q2] 99 (0, 0))).alloc (.cells #[.int .i64 c0, .int .i64 c1, .float .f64 c2, .int .i64 c3, .int .i64 c4, .int .i64 c5, .int .i64 c6, .int .i64 c7, .int .i64 c8, .bool c9, .bool c10] 95 (0, 0))).alloc (.cells #[.int .i64 0, .int .i64 0, .int .i64 0] 99 (0, 0))).heap[w.heap.size]? = some (.cells #[.int .i64 q0, .int .i64 q1, .int .i64 q2] 99 (0, 0))) := Lib.hid (blk_alloc (blk_alloc (blk_new w _) _) _)
  have KcW : Hid ((((w.alloc (.cells #[.int .i64 q0, .int .i64 q1, .int .i64 q2] 99 (0, 0))).alloc (.cells #[.int .i64 c0, .int .i64 c1, .float .f64 c2, .int .i64 c3, .int .i64 c4, .int .i64 c5, .int .i64 c6, .int .i64 c7, .int .i64 c8, .bool c9, .bool c10] 95 (0, 0))).alloc (.cells #[.int .i64 0, .int .i64 0, .int .i64 0] 99 (0, 0))).heap[w.heap.size + 1]? = some (.cells #[.int .i64 c0, .int .i64 c1, .float .f64 c2, .int .i64 c3, .int .i64 c4, .int .i64 c5, .int .i64 c6, .int .i64 c7, .int .i64 c8, .bool c9, .bool c10] 95 (0, 0))) := Lib.hid (blk_alloc (new_at _ _ _ (by simp)) _)
  have KzW : Hid ((((w.alloc (.cells #[.int .i64 q0, .int .i64 q1, .int .i64 q2] 99 (0, 0))).alloc (.cells #[.int .i64 c0, .int .i64 c1, .float .f64 c2, .int .i64 c3, .int .i64 c4, .int .i64 c5, .int .i64 c6, .int .i64 c7, .int .i64 c8, .bool c9, .bool c10] 95 (0, 0))).alloc (.cells #[.int .i64 0, .int .i64 0, .int .i64 0] 99 (0, 0))).heap[w.heap.size + 2]? = some (.cells #[.int .i64 0, .int .i64 0, .int .i64 0] 99 (0, 0))) := Lib.hid (new_at _ _ _ (by simp))
  have BBW : Hid (Below w.heap.size w (((w.alloc (.cells #[.int .i64 q0, .int .i64 q1, .int .i64 q2] 99 (0, 0))).alloc (.cells #[.int .i64 c0, .int .i64 c1, .float .f64 c2, .int .i64 c3, .int .i64 c4, .int .i64 c5, .int .i64 c6, .int .i64 c7, .int .i64 c8, .bool c9, .bool c10] 95 (0, 0))).alloc (.cells #[.int .i64 0, .int .i64 0, .int .i64 0] 99 (0, 0)))) := Lib.hid ((((Below.refl w.heap.size w).alloc (Nat.le_refl _) _).alloc (by simp) _).alloc (by simp; omega) _)
  revert KsW KcW KzW BBW
  generalize (((w.alloc (.cells #[.int .i64 q0, .int .i64 q1, .int .i64 q2] 99 (0, 0))).alloc (.cells #[.int .i64 c0, .int .i64 c1, .float .f64 c2, .int .i64 c3, .int .i64 c4, .int .i64 c5, .int .i64 c6, .int .i64 c7, .int .i64 c8, .bool c9, .bool c10] 95 (0, 0))).alloc (.cells #[.int .i64 0, .int .i64 0, .int .i64 0] 99 (0, 0))) = w0
  intro KsW KcW KzW BBW
  (with_reducible refine (HR.out _).mono ?_); rintro e w1 ⟨rfl, hb⟩
  have Ks0 : Hid (w1.heap[w.heap.size]? = some (.cells #[.int .i64 q0, .int .i64 q1, .int .i64 q2] 99 (0, 0))) := Lib.hid (blk_below (by exact KsW.out) hb)
  have Kc0 : Hid (w1.heap[w.heap.size + 1]? = some (.cells #[.int .i64 c0, .int .i64 c1, .float .f64 c2, .int .i64 c3, .int .i64 c4, .int .i64 c5, .int .i64 c6, .int .i64 c7, .int .i64 c8, .bool c9, .bool c10] 95 (0, 0))) := Lib.hid (blk_below (by exact KcW.out) hb)
  have Kz0 : Hid (w1.heap[w.heap.size + 2]? = some (.cells #[.int .i64 0, .int .i64 0, .int .i64 0] 99 (0, 0))) := Lib.hid (blk_below (by exact KzW.out) hb)
  have BB0 : Hid (Below w.heap.size w w1) := Lib.hid (Below.trans (by exact BBW.out) (hb.mono (by have := BBW.out.size; simpa using this)))
  clear hb KsW KcW KzW BBW
  have cs0 : w1.cell? ⟨w.heap.size, 0, none⟩ = some (.int .i64 q0) := (blk_cell Ks0.out 0).trans rfl
  have cs1 : w1.cell? ⟨w.heap.size, 1, none⟩ = some (.int .i64 q1) := (blk_cell Ks0.out 1).trans rfl
  have cs2 : w1.cell? ⟨w.heap.size, 2, none⟩ = some (.int .i64 q2) := (blk_cell Ks0.out 2).trans rfl
  have cz0 : w1.cell? ⟨w.heap.size + 2, 0, none⟩ = some (.int .i64 0) := (blk_cell Kz0.out 0).trans rfl
  have cz1 : w1.cell? ⟨w.heap.size + 2, 1, none⟩ = some (.int .i64 0) := (blk_cell Kz0.out 1).trans rfl
  have cz2 : w1.cell? ⟨w.heap.size + 2, 2, none⟩ = some (.int .i64 0) := (blk_cell Kz0.out 2).trans rfl
  have fz0 := blk_frozen Kz0.out 0
  have fz1 := blk_frozen Kz0.out 1
  have fz2 := blk_frozen Kz0.out 2
  go_wp2
  have hrow := Lib.hid (blk_put (cs := #[.int .i64 q0, .int .i64 q1, .int .i64 0]) (cs' := #[.int .i64 q0, .int .i64 q1, .int .i64 q2]) (blk_put (cs := #[.int .i64 q0, .int .i64 0, .int .i64 0]) (cs' := #[.int .i64 q0, .int .i64 q1, .int .i64 0]) (blk_put (cs := #[.int .i64 0, .int .i64 0, .int .i64 0]) (cs' := #[.int .i64 q0, .int .i64 0, .int .i64 0]) Kz0.out 0 (.int .i64 q0) rfl) 1 (.int .i64 q1) rfl) 2 (.int .i64 q2) rfl)
  have hbz := Lib.hid (show Below w.heap.size w (((w1.setCell ⟨w.heap.size + 2, 0, none⟩ (.int .i64 q0)).setCell ⟨w.heap.size + 2, 1, none⟩ (.int .i64 q1)).setCell ⟨w.heap.size + 2, 2, none⟩ (.int .i64 q2)) from (((BB0.out).setCell (p := ⟨w.heap.size + 2, 0, none⟩) (by show w.heap.size ≤ w.heap.size + 2; omega) _).setCell (p := ⟨w.heap.size + 2, 1, none⟩) (by show w.heap.size ≤ w.heap.size + 2; omega) _).setCell (p := ⟨w.heap.size + 2, 2, none⟩) (by show w.heap.size ≤ w.heap.size + 2; omega) _)
  revert hrow hbz
  generalize (((w1.setCell ⟨w.heap.size + 2, 0, none⟩ (.int .i64 q0)).setCell ⟨w.heap.size + 2, 1, none⟩ (.int .i64 q1)).setCell ⟨w.heap.size + 2, 2, none⟩ (.int .i64 q2)) = wz
  intro hrow hbz
  have hld := run_loadVar_row (P := Try.prog) wz (w.heap.size + 2) 99 99 #[.int .i64 q0, .int .i64 q1, .int .i64 q2] (0, 0) _ hrow.out Try.underlying99 rfl (by kernel_rfl)
  exact bodyPost_ret (v := .agg #[.int .i64 q0, .int .i64 q1, .int .i64 q2]) (by simp [results, Try.results89, asAddr, hld]) rfl ⟨rfl, hbz.out⟩
set_option maxRecDepth 100000 in
set_option maxHeartbeats 4000000 in
theorem sent_hi (q0 q1 q2 : Int) (c0 : Int) (c1 : Int) (c2 : Nat) (c3 : Int) (c4 : Int) (c5 : Int) (c6 : Int) (c7 : Int) (c8 : Int) (c9 : Bool) (c10 : Bool) (time now d0 d hn st av : Int) (w : World) (hr : ∀ w, Calls Try.prog 139 #[.agg #[.int .i64 c0, .int .i64 c1, .float .f64 c2, .int .i64 c3, .int .i64 c4, .int .i64 c5, .int .i64 c6, .int .i64 c7, .int .i64 c8, .bool c9, .bool c10]] w fun e w' => e = .returned (.bool true) ∧ Below w.heap.size w w') (hs1 : ∀ w, Calls Try.prog 140 #[.int .i64 now, .int .i64 q0] w fun e w' => e = .returned (.int .i64 d0) ∧ w = w')
    (hs2 : ∀ w, Calls Try.prog 140 #[.int .i64 d0, .int .i64 time] w fun e w' => e = .returned (.int .i64 d) ∧ w = w')
    (hn_ : ∀ w, Calls Try.prog 141 #[.int .i64 now] w fun e w' => e = .returned (.int .i64 hn) ∧ w = w')
    (ht : ∀ w, Calls Try.prog 143 #[.int .i64 q1, .int .i64 d, .int .i64 c6] w fun e w' => e = .returned (.int .i64 st) ∧ w = w')
    (hh : ∀ w, Calls Try.prog 142 #[.int .i64 st, .agg #[.int .i64 c0, .int .i64 c1, .float .f64 c2, .int .i64 c3, .int .i64 c4, .int .i64 c5, .int .i64 c6, .int .i64 c7, .int .i64 c8, .bool c9, .bool c10]] w fun e w' => e = .returned (.int .i64 av) ∧ Below w.heap.size w w') (hav : decide (av < 0) = false) :
    Calls Try.prog 89 #[.agg #[.int .i64 q0, .int .i64 q1, .int .i64 q2], .agg #[.int .i64 c0, .int .i64 c1, .float .f64 c2, .int .i64 c3, .int .i64 c4, .int .i64 c5, .int .i64 c6, .int .i64 c7, .int .i64 c8, .bool c9, .bool c10], .int .i64 time, .int .i64 now] w fun e w' => e = .returned (.agg #[.int .i64 hn, .int .i64 av, .int .i64 0]) ∧ Below w.heap.size w w' := by
  have hr' := hr
  have HR := Lib.hid hr; have HH := Lib.hid hh; have HN := Lib.hid hn_; have HT := Lib.hid ht; have HS1 := Lib.hid hs1; have HS2 := Lib.hid hs2; clear hr hr' hh hn_ ht hs1 hs2
  go_enter Try.func89, Try.ntmps89
  go_wp2_with fail
  have KsW : Hid ((((w.alloc (.cells #[.int .i64 q0, .int .i64 q1, .int .i64 q2] 99 (0, 0))).alloc (.cells #[.int .i64 c0, .int .i64 c1, .float .f64 c2, .int .i64 c3, .int .i64 c4, .int .i64 c5, .int .i64 c6, .int .i64 c7, .int .i64 c8, .bool c9, .bool c10] 95 (0, 0))).alloc (.cells #[.int .i64 0, .int .i64 0, .int .i64 0] 99 (0, 0))).heap[w.heap.size]? = some (.cells #[.int .i64 q0, .int .i64 q1, .int .i64 q2] 99 (0, 0))) := Lib.hid (blk_alloc (blk_alloc (blk_new w _) _) _)
  have KcW : Hid ((((w.alloc (.cells #[.int .i64 q0, .int .i64 q1, .int .i64 q2] 99 (0, 0))).alloc (.cells #[.int .i64 c0, .int .i64 c1, .float .f64 c2, .int .i64 c3, .int .i64 c4, .int .i64 c5, .int .i64 c6, .int .i64 c7, .int .i64 c8, .bool c9, .bool c10] 95 (0, 0))).alloc (.cells #[.int .i64 0, .int .i64 0, .int .i64 0] 99 (0, 0))).heap[w.heap.size + 1]? = some (.cells #[.int .i64 c0, .int .i64 c1, .float .f64 c2, .int .i64 c3, .int .i64 c4, .int .i64 c5, .int .i64 c6, .int .i64 c7, .int .i64 c8, .bool c9, .bool c10] 95 (0, 0))) := Lib.hid (blk_alloc (new_at _ _ _ (by simp)) _)
  have KzW : Hid ((((w.alloc (.cells #[.int .i64 q0, .int .i64 q1, .int .i64 q2] 99 (0, 0))).alloc (.cells #[.int .i64 c0, .int .i64 c1, .float .f64 c2, .int .i64 c3, .int .i64 c4, .int .i64 c5, .int .i64 c6, .int .i64 c7, .int .i64 c8, .bool c9, .bool c10] 95 (0, 0))).alloc (.cells #[.int .i64 0, .int .i64 0, .int .i64 0] 99 (0, 0))).heap[w.heap.size + 2]? = some (.cells #[.int .i64 0, .int .i64 0, .int .i64 0] 99 (0, 0))) := Lib.hid (new_at _ _ _ (by simp))
  have BBW : Hid (Below w.heap.size w (((w.alloc (.cells #[.int .i64 q0, .int .i64 q1, .int .i64 q2] 99 (0, 0))).alloc (.cells #[.int .i64 c0, .int .i64 c1, .float .f64 c2, .int .i64 c3, .int .i64 c4, .int .i64 c5, .int .i64 c6, .int .i64 c7, .int .i64 c8, .bool c9, .bool c10] 95 (0, 0))).alloc (.cells #[.int .i64 0, .int .i64 0, .int .i64 0] 99 (0, 0)))) := Lib.hid ((((Below.refl w.heap.size w).alloc (Nat.le_refl _) _).alloc (by simp) _).alloc (by simp; omega) _)
  revert KsW KcW KzW BBW
  generalize (((w.alloc (.cells #[.int .i64 q0, .int .i64 q1, .int .i64 q2] 99 (0, 0))).alloc (.cells #[.int .i64 c0, .int .i64 c1, .float .f64 c2, .int .i64 c3, .int .i64 c4, .int .i64 c5, .int .i64 c6, .int .i64 c7, .int .i64 c8, .bool c9, .bool c10] 95 (0, 0))).alloc (.cells #[.int .i64 0, .int .i64 0, .int .i64 0] 99 (0, 0))) = w0
  intro KsW KcW KzW BBW
  (with_reducible refine (HR.out _).mono ?_); rintro e w1 ⟨rfl, hb⟩
  have Ks0 : Hid (w1.heap[w.heap.size]? = some (.cells #[.int .i64 q0, .int .i64 q1, .int .i64 q2] 99 (0, 0))) := Lib.hid (blk_below (by exact KsW.out) hb)
  have Kc0 : Hid (w1.heap[w.heap.size + 1]? = some (.cells #[.int .i64 c0, .int .i64 c1, .float .f64 c2, .int .i64 c3, .int .i64 c4, .int .i64 c5, .int .i64 c6, .int .i64 c7, .int .i64 c8, .bool c9, .bool c10] 95 (0, 0))) := Lib.hid (blk_below (by exact KcW.out) hb)
  have Kz0 : Hid (w1.heap[w.heap.size + 2]? = some (.cells #[.int .i64 0, .int .i64 0, .int .i64 0] 99 (0, 0))) := Lib.hid (blk_below (by exact KzW.out) hb)
  have BB0 : Hid (Below w.heap.size w w1) := Lib.hid (Below.trans (by exact BBW.out) (hb.mono (by have := BBW.out.size; simpa using this)))
  clear hb KsW KcW KzW BBW
  have cs0 : w1.cell? ⟨w.heap.size, 0, none⟩ = some (.int .i64 q0) := (blk_cell Ks0.out 0).trans rfl
  go_wp2_with (first | ((with_reducible refine (HS1.out _).mono ?_); rintro e w' ⟨rfl, rfl⟩) | ((with_reducible refine (HS2.out _).mono ?_); rintro e w' ⟨rfl, rfl⟩))
  clear cs0
  refine start_ (n := 13) (S := fun w' => w'.heap[w.heap.size]? = some (.cells #[.int .i64 q0, .int .i64 q1, .int .i64 q2] 99 (0, 0)) ∧ w'.heap[w.heap.size + 1]? = some (.cells #[.int .i64 c0, .int .i64 c1, .float .f64 c2, .int .i64 c3, .int .i64 c4, .int .i64 c5, .int .i64 c6, .int .i64 c7, .int .i64 c8, .bool c9, .bool c10] 95 (0, 0)) ∧ w'.heap[w.heap.size + 2]? = some (.cells #[.int .i64 0, .int .i64 0, .int .i64 0] 99 (0, 0))) (ds := [12]) #[false, false, false, false, false, false, false, false, false, false, false, false, false] (by kernel_rfl) rfl rfl ⟨Ks0.out, Kc0.out, Kz0.out⟩ (fun hHeld => ?_)
  refine with_tabW rgnSent.tab4 rgnSent.bits4 (fun HT_ HW_ => ?_)
  have nb_ := Lib.hid (below_drew1 BB0.out); clear BB0; have BB0 := nb_; clear nb_
  have n0_ := Lib.hid (blk_drew Ks0.out); have n1_ := Lib.hid (blk_drew Kc0.out); have n2_ := Lib.hid (blk_drew Kz0.out); clear Ks0 Kc0 Kz0; have Ks0 := n0_; have Kc0 := n1_; have Kz0 := n2_; clear n0_ n1_ n2_
  revert Ks0 Kc0 Kz0 BB0 hHeld
  generalize w1.drew = wd
  intro hHeld BB0 Ks0 Kc0 Kz0
  refine pure_ (i := 0) (N := some 21) (v := ?_) (a' := ?_) #[true, false, false, false, false, false, false, false, false, false, false, false, false] rfl rfl (any_of HT_.out (by kernel_rfl)) (fun _ _ _ h => h) (Or.inl ⟨by rfl, ?_⟩) ?_ ?_
  rotate_left
  · intro w'
    go_simp
    with_reducible rfl
  rotate_left
  · simp only [Act.put, List.setIfInBounds_toArray, List.set_cons_zero, List.set_cons_succ, i64_w, i32_w]
    rfl
  refine pure_ (i := 2) (N := some 23) (v := ?_) (a' := ?_) #[true, false, true, false, false, false, false, false, false, false, false, false, false] rfl rfl (any_of HT_.out (by kernel_rfl)) (fun _ _ _ h => h) (Or.inl ⟨by rfl, ?_⟩) ?_ ?_
  rotate_left
  · intro w'
    go_simp
    with_reducible rfl
  rotate_left
  · simp only [Act.put, List.setIfInBounds_toArray, List.set_cons_zero, List.set_cons_succ, i64_w, i32_w]
    rfl
  refine pure_ (i := 4) (N := some 25) (v := ?_) (a' := ?_) #[true, false, true, false, true, false, false, false, false, false, false, false, false] rfl rfl (any_of HT_.out (by kernel_rfl)) (fun _ _ _ h => h) (Or.inl ⟨by rfl, ?_⟩) ?_ ?_
  rotate_left
  · intro w'
    go_simp
    with_reducible rfl
  rotate_left
  · simp only [Act.put, List.setIfInBounds_toArray, List.set_cons_zero, List.set_cons_succ, i64_w, i32_w]
    rfl
  refine pure_ (i := 5) (N := some 26) (v := ?_) (a' := ?_) #[true, false, true, false, true, true, false, false, false, false, false, false, false] rfl rfl (any_of HT_.out (by kernel_rfl)) (fun _ _ _ h => h) (Or.inl ⟨by rfl, ?_⟩) ?_ ?_
  rotate_left
  · intro w'
    go_simp
    with_reducible rfl
  rotate_left
  · simp only [Act.put, List.setIfInBounds_toArray, List.set_cons_zero, List.set_cons_succ, i64_w, i32_w]
    rfl
  refine take_ (i := 3) (N := some 24) (v := ?_) (a' := ?_) #[true, false, true, true, true, true, false, false, false, false, false, false, false] rfl rfl (take_ofW HT_.out HW_.out (by kernel_rfl)) (fun _ _ _ h => h) (Or.inl ⟨by rfl, ?_⟩) hHeld ?_ ?_
  rotate_left
  · rintro w' ⟨s0, s1, s2⟩
    have c_ : w'.cell? ⟨w.heap.size, 1, none⟩ = some (.int .i64 q1) := (blk_cell s0 1).trans rfl
    go_simp
    with_reducible rfl
  rotate_left
  · simp only [Act.put, List.setIfInBounds_toArray, List.set_cons_zero, List.set_cons_succ, i64_w, i32_w]
    rfl
  refine take_ (i := 6) (N := some 27) (v := ?_) (a' := ?_) #[true, false, true, true, true, true, true, false, false, false, false, false, false] rfl rfl (take_ofW HT_.out HW_.out (by kernel_rfl)) (fun _ _ _ h => h) (Or.inl ⟨by rfl, ?_⟩) hHeld ?_ ?_
  rotate_left
  · rintro w' ⟨s0, s1, s2⟩
    have c_ : w'.cell? ⟨w.heap.size + 1, 6, none⟩ = some (.int .i64 c6) := (blk_cell s1 6).trans rfl
    go_simp
    with_reducible rfl
  rotate_left
  · simp only [Act.put, List.setIfInBounds_toArray, List.set_cons_zero, List.set_cons_succ, i64_w, i32_w]
    rfl
  refine take_ (i := 8) (N := some 29) (v := ?_) (a' := ?_) #[true, false, true, true, true, true, true, false, true, false, false, false, false] rfl rfl (take_ofW HT_.out HW_.out (by kernel_rfl)) (fun _ _ _ h => h) (Or.inl ⟨by rfl, ?_⟩) hHeld ?_ ?_
  rotate_left
  · rintro w' ⟨s0, s1, s2⟩
    exact (ldrow (P := Try.prog) 95 _ _ Try.underlying95 rfl (by exact info_c) _ _ (.tmp 5) _ rfl (by rfl) w' s1).trans (by with_reducible rfl)
  rotate_left
  · simp only [Act.put, List.setIfInBounds_toArray, List.set_cons_zero, List.set_cons_succ, i64_w, i32_w]
    rfl
  refine join_ (σ := Nat) 1 #[true, true, true, true, true, true, true, true, true, true, true, true, false] (fun s => [(22, .int .i64 hn), (28, .int .i64 st), (30, .int .i64 av), (10, .pointer (some ⟨s, 0, none⟩)), (31, .agg #[.int .i64 hn, .int .i64 av, .int .i64 0])]) (fun s w' => w'.heap[w.heap.size]? = some (.cells #[.int .i64 q0, .int .i64 q1, .int .i64 q2] 99 (0, 0)) ∧ w'.heap[w.heap.size + 1]? = some (.cells #[.int .i64 c0, .int .i64 c1, .float .f64 c2, .int .i64 c3, .int .i64 c4, .int .i64 c5, .int .i64 c6, .int .i64 c7, .int .i64 c8, .bool c9, .bool c10] 95 (0, 0)) ∧ w'.heap[w.heap.size + 2]? = some (.cells #[.int .i64 0, .int .i64 0, .int .i64 0] 99 (0, 0)) ∧ w'.heap[s]? = some (.cells #[.int .i64 0, .int .i64 0, .int .i64 0] 99 (0, 0)) ∧ w.heap.size < s ∧ w.heap.size + 1 < s ∧ w.heap.size + 2 < s ∧ w.heap.size ≤ s ∧ Below w.heap.size w w') ?_ ?_
  rotate_left
  · intro hCont
    refine two_ (i := 1) (j := 11) (Ni := some 22) (Nj := some 10) #[true, true, true, true, true, true, true, false, true, false, false, false, false] #[true, false, true, true, true, true, true, false, true, false, false, true, false] rfl rfl rfl rfl (two_of HT_.out (by kernel_rfl)) (by decide) (by decide) (fun K hK => ?_) (fun K hK => ?_)
    · skip
      refine goes_ Try.func141 (by kernel_rfl) rfl #[.int .i64 now] (by rfl) rfl rfl (by simp only [List.map_toArray, List.map_cons, List.map_nil]; rfl) ?_
      with_reducible refine (HN.out _).mono ?_
      rintro e u1 ⟨rfl, rfl⟩
      have Ks1 := Ks0
      have Kc1 := Kc0
      have Kz1 := Kz0
      have BB1 := BB0
      refine ⟨_, rfl, ?_⟩
      refine hK.out _ _ ⟨Ks1.out, Kc1.out, Kz1.out⟩ (fun hHeld => ?_)
      clear hK K
      refine norm_ (a' := ?_) ?_ ?_
      rotate_left
      · show Act.put _ (some 22) _ = _
        simp only [Act.put, List.setIfInBounds_toArray, List.set_cons_zero, List.set_cons_succ, i64_w, i32_w]
        rfl
      refine two_ (i := 7) (j := 11) (Ni := some 28) (Nj := some 10) #[true, true, true, true, true, true, true, true, true, false, false, false, false] #[true, true, true, true, true, true, true, false, true, false, false, true, false] rfl rfl rfl rfl (two_of HT_.out (by kernel_rfl)) (by decide) (by decide) (fun K hK => ?_) (fun K hK => ?_)
      · skip
        refine goes_ Try.func143 (by kernel_rfl) rfl #[.int .i64 q1, .int .i64 d, .int .i64 c6] (by rfl) rfl rfl (by simp only [List.map_toArray, List.map_cons, List.map_nil]; rfl) ?_
        with_reducible refine (HT.out _).mono ?_
        rintro e u7 ⟨rfl, rfl⟩
        have Ks2 := Ks1
        have Kc2 := Kc1
        have Kz2 := Kz1
        have BB2 := BB1
        refine ⟨_, rfl, ?_⟩
        refine hK.out _ _ ⟨Ks2.out, Kc2.out, Kz2.out⟩ (fun hHeld => ?_)
        clear hK K
        refine norm_ (a' := ?_) ?_ ?_
        rotate_left
        · show Act.put _ (some 28) _ = _
          simp only [Act.put, List.setIfInBounds_toArray, List.set_cons_zero, List.set_cons_succ, i64_w, i32_w]
          rfl
        refine two_ (i := 9) (j := 11) (Ni := some 30) (Nj := some 10) #[true, true, true, true, true, true, true, true, true, true, false, false, false] #[true, true, true, true, true, true, true, true, true, false, false, true, false] rfl rfl rfl rfl (two_of HT_.out (by kernel_rfl)) (by decide) (by decide) (fun K hK => ?_) (fun K hK => ?_)
        · skip
          refine goes_ Try.func142 (by kernel_rfl) rfl #[.int .i64 st, .agg #[.int .i64 c0, .int .i64 c1, .float .f64 c2, .int .i64 c3, .int .i64 c4, .int .i64 c5, .int .i64 c6, .int .i64 c7, .int .i64 c8, .bool c9, .bool c10]] (by rfl) rfl rfl (by simp only [List.map_toArray, List.map_cons, List.map_nil]; rfl) ?_
          with_reducible refine (HH.out _).mono ?_
          rintro e u9 ⟨rfl, hb⟩
          have Ks3 : Hid (u9.heap[w.heap.size]? = some (.cells #[.int .i64 q0, .int .i64 q1, .int .i64 q2] 99 (0, 0))) := Lib.hid (blk_below (by exact Ks2.out) hb)
          have Kc3 : Hid (u9.heap[w.heap.size + 1]? = some (.cells #[.int .i64 c0, .int .i64 c1, .float .f64 c2, .int .i64 c3, .int .i64 c4, .int .i64 c5, .int .i64 c6, .int .i64 c7, .int .i64 c8, .bool c9, .bool c10] 95 (0, 0))) := Lib.hid (blk_below (by exact Kc2.out) hb)
          have Kz3 : Hid (u9.heap[w.heap.size + 2]? = some (.cells #[.int .i64 0, .int .i64 0, .int .i64 0] 99 (0, 0))) := Lib.hid (blk_below (by exact Kz2.out) hb)
          have BB3 : Hid (Below w.heap.size w u9) := Lib.hid (Below.trans (by exact BB2.out) (hb.mono (by have := BB2.out.size; simpa using this)))
          clear hb
          refine ⟨_, rfl, ?_⟩
          refine hK.out _ _ ⟨Ks3.out, Kc3.out, Kz3.out⟩ (fun hHeld => ?_)
          clear hK K
          refine norm_ (a' := ?_) ?_ ?_
          rotate_left
          · show Act.put _ (some 30) _ = _
            simp only [Act.put, List.setIfInBounds_toArray, List.set_cons_zero, List.set_cons_succ, i64_w, i32_w]
            rfl
          refine pure_ (i := 10) (N := some 31) (v := ?_) (a' := ?_) #[true, true, true, true, true, true, true, true, true, true, true, false, false] rfl rfl (any_of HT_.out (by kernel_rfl)) (fun _ _ _ h => h) (Or.inl ⟨by rfl, ?_⟩) ?_ ?_
          rotate_left
          · intro w'
            go_simp
            with_reducible rfl
          rotate_left
          · simp only [Act.put, List.setIfInBounds_toArray, List.set_cons_zero, List.set_cons_succ, i64_w, i32_w]
            rfl
          refine one_ (i := 11) (N := some 10) #[true, true, true, true, true, true, true, true, true, true, true, true, false] rfl rfl (one_of HT_.out (by kernel_rfl)) (by decide) (fun K hK => ?_)
          refine value_ (w1 := ?_) (v := ?_) (by rfl) rfl ?_ ?_
          rotate_left 2
          · go_simp
            constructor
            · rfl
            · rfl
          have Ks4 : Hid ((u9.alloc (.cells #[.int .i64 0, .int .i64 0, .int .i64 0] 99 (0, 0))).heap[w.heap.size]? = some (.cells #[.int .i64 q0, .int .i64 q1, .int .i64 q2] 99 (0, 0))) := Lib.hid (blk_alloc (by exact Ks3.out) _)
          have Kc4 : Hid ((u9.alloc (.cells #[.int .i64 0, .int .i64 0, .int .i64 0] 99 (0, 0))).heap[w.heap.size + 1]? = some (.cells #[.int .i64 c0, .int .i64 c1, .float .f64 c2, .int .i64 c3, .int .i64 c4, .int .i64 c5, .int .i64 c6, .int .i64 c7, .int .i64 c8, .bool c9, .bool c10] 95 (0, 0))) := Lib.hid (blk_alloc (by exact Kc3.out) _)
          have Kz4 : Hid ((u9.alloc (.cells #[.int .i64 0, .int .i64 0, .int .i64 0] 99 (0, 0))).heap[w.heap.size + 2]? = some (.cells #[.int .i64 0, .int .i64 0, .int .i64 0] 99 (0, 0))) := Lib.hid (blk_alloc (by exact Kz3.out) _)
          have Ko4 : Hid ((u9.alloc (.cells #[.int .i64 0, .int .i64 0, .int .i64 0] 99 (0, 0))).heap[u9.heap.size]? = some (.cells #[.int .i64 0, .int .i64 0, .int .i64 0] 99 (0, 0))) := Lib.hid (new_at _ _ _ (by simp))
          have BB4 : Hid (Below w.heap.size w (u9.alloc (.cells #[.int .i64 0, .int .i64 0, .int .i64 0] 99 (0, 0)))) := Lib.hid (Below.alloc (by exact BB3.out) BB3.out.size _)
          have Lo_s : Hid (w.heap.size < u9.heap.size) := Lib.hid (by have := blk_lt Ks3.out; simpa using this)
          have Lo_c : Hid (w.heap.size + 1 < u9.heap.size) := Lib.hid (by have := blk_lt Kc3.out; simpa using this)
          have Lo_z : Hid (w.heap.size + 2 < u9.heap.size) := Lib.hid (by have := blk_lt Kz3.out; simpa using this)
          have Lo : Hid (w.heap.size ≤ u9.heap.size) := Lib.hid (by have := BB3.out.size; simpa using this)
          refine hK.out _ _ ⟨Ks4.out, Kc4.out, Kz4.out⟩ (fun hHeld => ?_)
          clear hK K
          refine norm_ (a' := ?_) ?_ ?_
          rotate_left
          · show Act.put _ (some 10) _ = _
            simp only [Act.put, List.setIfInBounds_toArray, List.set_cons_zero, List.set_cons_succ, i64_w, i32_w]
            rfl
          exact norm_ (by simp only [putAll, Act.put, List.setIfInBounds_toArray, List.set_cons_zero, List.set_cons_succ]) (hCont u9.heap.size _ ⟨Ks4.out, Kc4.out, Kz4.out, Ko4.out, Lo_s.out, Lo_c.out, Lo_z.out, Lo.out, BB4.out⟩)
        · skip
          refine value_ (w1 := ?_) (v := ?_) (by rfl) rfl ?_ ?_
          rotate_left 2
          · go_simp
            constructor
            · rfl
            · rfl
          have Ks3 : Hid ((wd.alloc (.cells #[.int .i64 0, .int .i64 0, .int .i64 0] 99 (0, 0))).heap[w.heap.size]? = some (.cells #[.int .i64 q0, .int .i64 q1, .int .i64 q2] 99 (0, 0))) := Lib.hid (blk_alloc (by exact Ks2.out) _)
          have Kc3 : Hid ((wd.alloc (.cells #[.int .i64 0, .int .i64 0, .int .i64 0] 99 (0, 0))).heap[w.heap.size + 1]? = some (.cells #[.int .i64 c0, .int .i64 c1, .float .f64 c2, .int .i64 c3, .int .i64 c4, .int .i64 c5, .int .i64 c6, .int .i64 c7, .int .i64 c8, .bool c9, .bool c10] 95 (0, 0))) := Lib.hid (blk_alloc (by exact Kc2.out) _)
          have Kz3 : Hid ((wd.alloc (.cells #[.int .i64 0, .int .i64 0, .int .i64 0] 99 (0, 0))).heap[w.heap.size + 2]? = some (.cells #[.int .i64 0, .int .i64 0, .int .i64 0] 99 (0, 0))) := Lib.hid (blk_alloc (by exact Kz2.out) _)
          have Ko3 : Hid ((wd.alloc (.cells #[.int .i64 0, .int .i64 0, .int .i64 0] 99 (0, 0))).heap[wd.heap.size]? = some (.cells #[.int .i64 0, .int .i64 0, .int .i64 0] 99 (0, 0))) := Lib.hid (new_at _ _ _ (by simp))
          have BB3 : Hid (Below w.heap.size w (wd.alloc (.cells #[.int .i64 0, .int .i64 0, .int .i64 0] 99 (0, 0)))) := Lib.hid (Below.alloc (by exact BB2.out) BB2.out.size _)
          have Lo_s : Hid (w.heap.size < wd.heap.size) := Lib.hid (by have := blk_lt Ks2.out; simpa using this)
          have Lo_c : Hid (w.heap.size + 1 < wd.heap.size) := Lib.hid (by have := blk_lt Kc2.out; simpa using this)
          have Lo_z : Hid (w.heap.size + 2 < wd.heap.size) := Lib.hid (by have := blk_lt Kz2.out; simpa using this)
          have Lo : Hid (w.heap.size ≤ wd.heap.size) := Lib.hid (by have := BB2.out.size; simpa using this)
          refine hK.out _ _ ⟨Ks3.out, Kc3.out, Kz3.out⟩ (fun hHeld => ?_)
          clear hK K
          refine norm_ (a' := ?_) ?_ ?_
          rotate_left
          · show Act.put _ (some 10) _ = _
            simp only [Act.put, List.setIfInBounds_toArray, List.set_cons_zero, List.set_cons_succ, i64_w, i32_w]
            rfl
          refine one_ (i := 9) (N := some 30) #[true, true, true, true, true, true, true, true, true, true, false, true, false] rfl rfl (one_of HT_.out (by kernel_rfl)) (by decide) (fun K hK => ?_)
          refine goes_ Try.func142 (by kernel_rfl) rfl #[.int .i64 st, .agg #[.int .i64 c0, .int .i64 c1, .float .f64 c2, .int .i64 c3, .int .i64 c4, .int .i64 c5, .int .i64 c6, .int .i64 c7, .int .i64 c8, .bool c9, .bool c10]] (by rfl) rfl rfl (by simp only [List.map_toArray, List.map_cons, List.map_nil]; rfl) ?_
          with_reducible refine (HH.out _).mono ?_
          rintro e u9 ⟨rfl, hb⟩
          have Ks4 : Hid (u9.heap[w.heap.size]? = some (.cells #[.int .i64 q0, .int .i64 q1, .int .i64 q2] 99 (0, 0))) := Lib.hid (blk_below (by exact Ks3.out) hb)
          have Kc4 : Hid (u9.heap[w.heap.size + 1]? = some (.cells #[.int .i64 c0, .int .i64 c1, .float .f64 c2, .int .i64 c3, .int .i64 c4, .int .i64 c5, .int .i64 c6, .int .i64 c7, .int .i64 c8, .bool c9, .bool c10] 95 (0, 0))) := Lib.hid (blk_below (by exact Kc3.out) hb)
          have Kz4 : Hid (u9.heap[w.heap.size + 2]? = some (.cells #[.int .i64 0, .int .i64 0, .int .i64 0] 99 (0, 0))) := Lib.hid (blk_below (by exact Kz3.out) hb)
          have Ko4 : Hid (u9.heap[wd.heap.size]? = some (.cells #[.int .i64 0, .int .i64 0, .int .i64 0] 99 (0, 0))) := Lib.hid (blk_below (by exact Ko3.out) hb)
          have BB4 : Hid (Below w.heap.size w u9) := Lib.hid (Below.trans (by exact BB3.out) (hb.mono (by have := BB3.out.size; simpa using this)))
          clear hb
          refine ⟨_, rfl, ?_⟩
          refine hK.out _ _ ⟨Ks4.out, Kc4.out, Kz4.out⟩ (fun hHeld => ?_)
          clear hK K
          refine norm_ (a' := ?_) ?_ ?_
          rotate_left
          · show Act.put _ (some 30) _ = _
            simp only [Act.put, List.setIfInBounds_toArray, List.set_cons_zero, List.set_cons_succ, i64_w, i32_w]
            rfl
          refine pure_ (i := 10) (N := some 31) (v := ?_) (a' := ?_) #[true, true, true, true, true, true, true, true, true, true, true, true, false] rfl rfl (any_of HT_.out (by kernel_rfl)) (fun _ _ _ h => h) (Or.inl ⟨by rfl, ?_⟩) ?_ ?_
          rotate_left
          · intro w'
            go_simp
            with_reducible rfl
          rotate_left
          · simp only [Act.put, List.setIfInBounds_toArray, List.set_cons_zero, List.set_cons_succ, i64_w, i32_w]
            rfl
          exact norm_ (by simp only [putAll, Act.put, List.setIfInBounds_toArray, List.set_cons_zero, List.set_cons_succ]) (hCont wd.heap.size _ ⟨Ks4.out, Kc4.out, Kz4.out, Ko4.out, Lo_s.out, Lo_c.out, Lo_z.out, Lo.out, BB4.out⟩)
      · skip
        refine value_ (w1 := ?_) (v := ?_) (by rfl) rfl ?_ ?_
        rotate_left 2
        · go_simp
          constructor
          · rfl
          · rfl
        have Ks2 : Hid ((wd.alloc (.cells #[.int .i64 0, .int .i64 0, .int .i64 0] 99 (0, 0))).heap[w.heap.size]? = some (.cells #[.int .i64 q0, .int .i64 q1, .int .i64 q2] 99 (0, 0))) := Lib.hid (blk_alloc (by exact Ks1.out) _)
        have Kc2 : Hid ((wd.alloc (.cells #[.int .i64 0, .int .i64 0, .int .i64 0] 99 (0, 0))).heap[w.heap.size + 1]? = some (.cells #[.int .i64 c0, .int .i64 c1, .float .f64 c2, .int .i64 c3, .int .i64 c4, .int .i64 c5, .int .i64 c6, .int .i64 c7, .int .i64 c8, .bool c9, .bool c10] 95 (0, 0))) := Lib.hid (blk_alloc (by exact Kc1.out) _)
        have Kz2 : Hid ((wd.alloc (.cells #[.int .i64 0, .int .i64 0, .int .i64 0] 99 (0, 0))).heap[w.heap.size + 2]? = some (.cells #[.int .i64 0, .int .i64 0, .int .i64 0] 99 (0, 0))) := Lib.hid (blk_alloc (by exact Kz1.out) _)
        have Ko2 : Hid ((wd.alloc (.cells #[.int .i64 0, .int .i64 0, .int .i64 0] 99 (0, 0))).heap[wd.heap.size]? = some (.cells #[.int .i64 0, .int .i64 0, .int .i64 0] 99 (0, 0))) := Lib.hid (new_at _ _ _ (by simp))
        have BB2 : Hid (Below w.heap.size w (wd.alloc (.cells #[.int .i64 0, .int .i64 0, .int .i64 0] 99 (0, 0)))) := Lib.hid (Below.alloc (by exact BB1.out) BB1.out.size _)
        have Lo_s : Hid (w.heap.size < wd.heap.size) := Lib.hid (by have := blk_lt Ks1.out; simpa using this)
        have Lo_c : Hid (w.heap.size + 1 < wd.heap.size) := Lib.hid (by have := blk_lt Kc1.out; simpa using this)
        have Lo_z : Hid (w.heap.size + 2 < wd.heap.size) := Lib.hid (by have := blk_lt Kz1.out; simpa using this)
        have Lo : Hid (w.heap.size ≤ wd.heap.size) := Lib.hid (by have := BB1.out.size; simpa using this)
        refine hK.out _ _ ⟨Ks2.out, Kc2.out, Kz2.out⟩ (fun hHeld => ?_)
        clear hK K
        refine norm_ (a' := ?_) ?_ ?_
        rotate_left
        · show Act.put _ (some 10) _ = _
          simp only [Act.put, List.setIfInBounds_toArray, List.set_cons_zero, List.set_cons_succ, i64_w, i32_w]
          rfl
        refine one_ (i := 7) (N := some 28) #[true, true, true, true, true, true, true, true, true, false, false, true, false] rfl rfl (one_of HT_.out (by kernel_rfl)) (by decide) (fun K hK => ?_)
        refine goes_ Try.func143 (by kernel_rfl) rfl #[.int .i64 q1, .int .i64 d, .int .i64 c6] (by rfl) rfl rfl (by simp only [List.map_toArray, List.map_cons, List.map_nil]; rfl) ?_
        with_reducible refine (HT.out _).mono ?_
        rintro e u7 ⟨rfl, rfl⟩
        have Ks3 := Ks2
        have Kc3 := Kc2
        have Kz3 := Kz2
        have Ko3 := Ko2
        have BB3 := BB2
        refine ⟨_, rfl, ?_⟩
        refine hK.out _ _ ⟨Ks3.out, Kc3.out, Kz3.out⟩ (fun hHeld => ?_)
        clear hK K
        refine norm_ (a' := ?_) ?_ ?_
        rotate_left
        · show Act.put _ (some 28) _ = _
          simp only [Act.put, List.setIfInBounds_toArray, List.set_cons_zero, List.set_cons_succ, i64_w, i32_w]
          rfl
        refine one_ (i := 9) (N := some 30) #[true, true, true, true, true, true, true, true, true, true, false, true, false] rfl rfl (one_of HT_.out (by kernel_rfl)) (by decide) (fun K hK => ?_)
        refine goes_ Try.func142 (by kernel_rfl) rfl #[.int .i64 st, .agg #[.int .i64 c0, .int .i64 c1, .float .f64 c2, .int .i64 c3, .int .i64 c4, .int .i64 c5, .int .i64 c6, .int .i64 c7, .int .i64 c8, .bool c9, .bool c10]] (by rfl) rfl rfl (by simp only [List.map_toArray, List.map_cons, List.map_nil]; rfl) ?_
        with_reducible refine (HH.out _).mono ?_
        rintro e u9 ⟨rfl, hb⟩
        have Ks4 : Hid (u9.heap[w.heap.size]? = some (.cells #[.int .i64 q0, .int .i64 q1, .int .i64 q2] 99 (0, 0))) := Lib.hid (blk_below (by exact Ks3.out) hb)
        have Kc4 : Hid (u9.heap[w.heap.size + 1]? = some (.cells #[.int .i64 c0, .int .i64 c1, .float .f64 c2, .int .i64 c3, .int .i64 c4, .int .i64 c5, .int .i64 c6, .int .i64 c7, .int .i64 c8, .bool c9, .bool c10] 95 (0, 0))) := Lib.hid (blk_below (by exact Kc3.out) hb)
        have Kz4 : Hid (u9.heap[w.heap.size + 2]? = some (.cells #[.int .i64 0, .int .i64 0, .int .i64 0] 99 (0, 0))) := Lib.hid (blk_below (by exact Kz3.out) hb)
        have Ko4 : Hid (u9.heap[wd.heap.size]? = some (.cells #[.int .i64 0, .int .i64 0, .int .i64 0] 99 (0, 0))) := Lib.hid (blk_below (by exact Ko3.out) hb)
        have BB4 : Hid (Below w.heap.size w u9) := Lib.hid (Below.trans (by exact BB3.out) (hb.mono (by have := BB3.out.size; simpa using this)))
        clear hb
        refine ⟨_, rfl, ?_⟩
        refine hK.out _ _ ⟨Ks4.out, Kc4.out, Kz4.out⟩ (fun hHeld => ?_)
        clear hK K
        refine norm_ (a' := ?_) ?_ ?_
        rotate_left
        · show Act.put _ (some 30) _ = _
          simp only [Act.put, List.setIfInBounds_toArray, List.set_cons_zero, List.set_cons_succ, i64_w, i32_w]
          rfl
        refine pure_ (i := 10) (N := some 31) (v := ?_) (a' := ?_) #[true, true, true, true, true, true, true, true, true, true, true, true, false] rfl rfl (any_of HT_.out (by kernel_rfl)) (fun _ _ _ h => h) (Or.inl ⟨by rfl, ?_⟩) ?_ ?_
        rotate_left
        · intro w'
          go_simp
          with_reducible rfl
        rotate_left
        · simp only [Act.put, List.setIfInBounds_toArray, List.set_cons_zero, List.set_cons_succ, i64_w, i32_w]
          rfl
        exact norm_ (by simp only [putAll, Act.put, List.setIfInBounds_toArray, List.set_cons_zero, List.set_cons_succ]) (hCont wd.heap.size _ ⟨Ks4.out, Kc4.out, Kz4.out, Ko4.out, Lo_s.out, Lo_c.out, Lo_z.out, Lo.out, BB4.out⟩)
    · skip
      refine value_ (w1 := ?_) (v := ?_) (by rfl) rfl ?_ ?_
      rotate_left 2
      · go_simp
        constructor
        · rfl
        · rfl
      have Ks1 : Hid ((wd.alloc (.cells #[.int .i64 0, .int .i64 0, .int .i64 0] 99 (0, 0))).heap[w.heap.size]? = some (.cells #[.int .i64 q0, .int .i64 q1, .int .i64 q2] 99 (0, 0))) := Lib.hid (blk_alloc (by exact Ks0.out) _)
      have Kc1 : Hid ((wd.alloc (.cells #[.int .i64 0, .int .i64 0, .int .i64 0] 99 (0, 0))).heap[w.heap.size + 1]? = some (.cells #[.int .i64 c0, .int .i64 c1, .float .f64 c2, .int .i64 c3, .int .i64 c4, .int .i64 c5, .int .i64 c6, .int .i64 c7, .int .i64 c8, .bool c9, .bool c10] 95 (0, 0))) := Lib.hid (blk_alloc (by exact Kc0.out) _)
      have Kz1 : Hid ((wd.alloc (.cells #[.int .i64 0, .int .i64 0, .int .i64 0] 99 (0, 0))).heap[w.heap.size + 2]? = some (.cells #[.int .i64 0, .int .i64 0, .int .i64 0] 99 (0, 0))) := Lib.hid (blk_alloc (by exact Kz0.out) _)
      have Ko1 : Hid ((wd.alloc (.cells #[.int .i64 0, .int .i64 0, .int .i64 0] 99 (0, 0))).heap[wd.heap.size]? = some (.cells #[.int .i64 0, .int .i64 0, .int .i64 0] 99 (0, 0))) := Lib.hid (new_at _ _ _ (by simp))
      have BB1 : Hid (Below w.heap.size w (wd.alloc (.cells #[.int .i64 0, .int .i64 0, .int .i64 0] 99 (0, 0)))) := Lib.hid (Below.alloc (by exact BB0.out) BB0.out.size _)
      have Lo_s : Hid (w.heap.size < wd.heap.size) := Lib.hid (by have := blk_lt Ks0.out; simpa using this)
      have Lo_c : Hid (w.heap.size + 1 < wd.heap.size) := Lib.hid (by have := blk_lt Kc0.out; simpa using this)
      have Lo_z : Hid (w.heap.size + 2 < wd.heap.size) := Lib.hid (by have := blk_lt Kz0.out; simpa using this)
      have Lo : Hid (w.heap.size ≤ wd.heap.size) := Lib.hid (by have := BB0.out.size; simpa using this)
      refine hK.out _ _ ⟨Ks1.out, Kc1.out, Kz1.out⟩ (fun hHeld => ?_)
      clear hK K
      refine norm_ (a' := ?_) ?_ ?_
      rotate_left
      · show Act.put _ (some 10) _ = _
        simp only [Act.put, List.setIfInBounds_toArray, List.set_cons_zero, List.set_cons_succ, i64_w, i32_w]
        rfl
      refine one_ (i := 1) (N := some 22) #[true, true, true, true, true, true, true, false, true, false, false, true, false] rfl rfl (one_of HT_.out (by kernel_rfl)) (by decide) (fun K hK => ?_)
      refine goes_ Try.func141 (by kernel_rfl) rfl #[.int .i64 now] (by rfl) rfl rfl (by simp only [List.map_toArray, List.map_cons, List.map_nil]; rfl) ?_
      with_reducible refine (HN.out _).mono ?_
      rintro e u1 ⟨rfl, rfl⟩
      have Ks2 := Ks1
      have Kc2 := Kc1
      have Kz2 := Kz1
      have Ko2 := Ko1
      have BB2 := BB1
      refine ⟨_, rfl, ?_⟩
      refine hK.out _ _ ⟨Ks2.out, Kc2.out, Kz2.out⟩ (fun hHeld => ?_)
      clear hK K
      refine norm_ (a' := ?_) ?_ ?_
      rotate_left
      · show Act.put _ (some 22) _ = _
        simp only [Act.put, List.setIfInBounds_toArray, List.set_cons_zero, List.set_cons_succ, i64_w, i32_w]
        rfl
      refine one_ (i := 7) (N := some 28) #[true, true, true, true, true, true, true, true, true, false, false, true, false] rfl rfl (one_of HT_.out (by kernel_rfl)) (by decide) (fun K hK => ?_)
      refine goes_ Try.func143 (by kernel_rfl) rfl #[.int .i64 q1, .int .i64 d, .int .i64 c6] (by rfl) rfl rfl (by simp only [List.map_toArray, List.map_cons, List.map_nil]; rfl) ?_
      with_reducible refine (HT.out _).mono ?_
      rintro e u7 ⟨rfl, rfl⟩
      have Ks3 := Ks2
      have Kc3 := Kc2
      have Kz3 := Kz2
      have Ko3 := Ko2
      have BB3 := BB2
      refine ⟨_, rfl, ?_⟩
      refine hK.out _ _ ⟨Ks3.out, Kc3.out, Kz3.out⟩ (fun hHeld => ?_)
      clear hK K
      refine norm_ (a' := ?_) ?_ ?_
      rotate_left
      · show Act.put _ (some 28) _ = _
        simp only [Act.put, List.setIfInBounds_toArray, List.set_cons_zero, List.set_cons_succ, i64_w, i32_w]
        rfl
      refine one_ (i := 9) (N := some 30) #[true, true, true, true, true, true, true, true, true, true, false, true, false] rfl rfl (one_of HT_.out (by kernel_rfl)) (by decide) (fun K hK => ?_)
      refine goes_ Try.func142 (by kernel_rfl) rfl #[.int .i64 st, .agg #[.int .i64 c0, .int .i64 c1, .float .f64 c2, .int .i64 c3, .int .i64 c4, .int .i64 c5, .int .i64 c6, .int .i64 c7, .int .i64 c8, .bool c9, .bool c10]] (by rfl) rfl rfl (by simp only [List.map_toArray, List.map_cons, List.map_nil]; rfl) ?_
      with_reducible refine (HH.out _).mono ?_
      rintro e u9 ⟨rfl, hb⟩
      have Ks4 : Hid (u9.heap[w.heap.size]? = some (.cells #[.int .i64 q0, .int .i64 q1, .int .i64 q2] 99 (0, 0))) := Lib.hid (blk_below (by exact Ks3.out) hb)
      have Kc4 : Hid (u9.heap[w.heap.size + 1]? = some (.cells #[.int .i64 c0, .int .i64 c1, .float .f64 c2, .int .i64 c3, .int .i64 c4, .int .i64 c5, .int .i64 c6, .int .i64 c7, .int .i64 c8, .bool c9, .bool c10] 95 (0, 0))) := Lib.hid (blk_below (by exact Kc3.out) hb)
      have Kz4 : Hid (u9.heap[w.heap.size + 2]? = some (.cells #[.int .i64 0, .int .i64 0, .int .i64 0] 99 (0, 0))) := Lib.hid (blk_below (by exact Kz3.out) hb)
      have Ko4 : Hid (u9.heap[wd.heap.size]? = some (.cells #[.int .i64 0, .int .i64 0, .int .i64 0] 99 (0, 0))) := Lib.hid (blk_below (by exact Ko3.out) hb)
      have BB4 : Hid (Below w.heap.size w u9) := Lib.hid (Below.trans (by exact BB3.out) (hb.mono (by have := BB3.out.size; simpa using this)))
      clear hb
      refine ⟨_, rfl, ?_⟩
      refine hK.out _ _ ⟨Ks4.out, Kc4.out, Kz4.out⟩ (fun hHeld => ?_)
      clear hK K
      refine norm_ (a' := ?_) ?_ ?_
      rotate_left
      · show Act.put _ (some 30) _ = _
        simp only [Act.put, List.setIfInBounds_toArray, List.set_cons_zero, List.set_cons_succ, i64_w, i32_w]
        rfl
      refine pure_ (i := 10) (N := some 31) (v := ?_) (a' := ?_) #[true, true, true, true, true, true, true, true, true, true, true, true, false] rfl rfl (any_of HT_.out (by kernel_rfl)) (fun _ _ _ h => h) (Or.inl ⟨by rfl, ?_⟩) ?_ ?_
      rotate_left
      · intro w'
        go_simp
        with_reducible rfl
      rotate_left
      · simp only [Act.put, List.setIfInBounds_toArray, List.set_cons_zero, List.set_cons_succ, i64_w, i32_w]
        rfl
      exact norm_ (by simp only [putAll, Act.put, List.setIfInBounds_toArray, List.set_cons_zero, List.set_cons_succ]) (hCont wd.heap.size _ ⟨Ks4.out, Kc4.out, Kz4.out, Ko4.out, Lo_s.out, Lo_c.out, Lo_z.out, Lo.out, BB4.out⟩)
  rintro go wj ⟨s0, s1, s2, ko, lo_s, lo_c, lo_z, lo, bj⟩
  have Ko := Lib.hid ko; have Lo_s := Lib.hid lo_s; have Lo_c := Lib.hid lo_c; have Lo_z := Lib.hid lo_z; have Lo := Lib.hid lo; have BJ := Lib.hid bj; have Ksj := Lib.hid s0; have Kcj := Lib.hid s1; have Kzj := Lib.hid s2
  clear ko lo_s lo_c lo_z lo bj
  have hHeld : wj.heap[w.heap.size]? = some (.cells #[.int .i64 q0, .int .i64 q1, .int .i64 q2] 99 (0, 0)) ∧ wj.heap[w.heap.size + 1]? = some (.cells #[.int .i64 c0, .int .i64 c1, .float .f64 c2, .int .i64 c3, .int .i64 c4, .int .i64 c5, .int .i64 c6, .int .i64 c7, .int .i64 c8, .bool c9, .bool c10] 95 (0, 0)) ∧ wj.heap[w.heap.size + 2]? = some (.cells #[.int .i64 0, .int .i64 0, .int .i64 0] 99 (0, 0)) := ⟨s0, s1, s2⟩
  clear s0 s1 s2
  refine norm_ (a' := ?_) ?_ ?_
  rotate_left
  · simp only [putAll, Act.put, List.setIfInBounds_toArray, List.set_cons_zero, List.set_cons_succ]
    rfl
  refine last_ (i := 12) (N := none) #[true, true, true, true, true, true, true, true, true, true, true, true, true] rfl rfl (one_of HT_.out (by kernel_rfl)) (by decide) (fun K hK => ?_)
  rw [if_pos (by rfl)]
  refine wp_store_row 99 (.tmp 10) (.tmp 31) rfl go #[.int .i64 hn, .int .i64 av, .int .i64 0] rfl rfl 99 _ Ko.out (by exact info_s) (by rfl) (by simp [Value.oneCell']) ?_
  refine hK.out _ _ ?_
  clear hK K
  refine done_ (done_of HT_.out (by kernel_rfl)) ?_
  have Ko : Hid ((wj.setRow go #[.int .i64 hn, .int .i64 av, .int .i64 0]).heap[go]? = some (.cells #[.int .i64 hn, .int .i64 av, .int .i64 0] 99 (0, 0))) := Lib.hid (setRow_heap _ go _ _ 99 _ Ko.out)
  have Kc1 : Hid ((wj.setRow go #[.int .i64 hn, .int .i64 av, .int .i64 0]).heap[w.heap.size + 1]? = some (.cells #[.int .i64 c0, .int .i64 c1, .float .f64 c2, .int .i64 c3, .int .i64 c4, .int .i64 c5, .int .i64 c6, .int .i64 c7, .int .i64 c8, .bool c9, .bool c10] 95 (0, 0))) := Lib.hid ((setRow_other _ go _ _ (by have := Lo_c.out; omega)).trans Kcj.out)
  have Kz1 : Hid ((wj.setRow go #[.int .i64 hn, .int .i64 av, .int .i64 0]).heap[w.heap.size + 2]? = some (.cells #[.int .i64 0, .int .i64 0, .int .i64 0] 99 (0, 0))) := Lib.hid ((setRow_other _ go _ _ (by have := Lo_z.out; omega)).trans Kzj.out)
  have BZ : Hid (Below w.heap.size w (wj.setRow go #[.int .i64 hn, .int .i64 av, .int .i64 0])) := Lib.hid (below_setRow BJ.out Lo.out _)
  have NZ : Hid (go ≠ w.heap.size + 2) := Lib.hid (by have := Lo_z.out; omega)
  clear BJ hHeld Ksj Kcj Kzj Lo_s Lo_c Lo_z
  revert Ko Kc1 Kz1 BZ
  generalize wj.setRow go #[.int .i64 hn, .int .i64 av, .int .i64 0] = wy
  intro Ko Kc1 Kz1 BZ
  simp only [Act.put]
  have co0 : wy.cell? ⟨go, 0, none⟩ = some (.int .i64 hn) := (blk_cell Ko.out 0).trans rfl
  have co1 : wy.cell? ⟨go, 1, none⟩ = some (.int .i64 av) := (blk_cell Ko.out 1).trans rfl
  have co2 : wy.cell? ⟨go, 2, none⟩ = some (.int .i64 0) := (blk_cell Ko.out 2).trans rfl
  have cz0 : wy.cell? ⟨w.heap.size + 2, 0, none⟩ = some (.int .i64 0) := (blk_cell Kz1.out 0).trans rfl
  have cz1 : wy.cell? ⟨w.heap.size + 2, 1, none⟩ = some (.int .i64 0) := (blk_cell Kz1.out 1).trans rfl
  have cz2 : wy.cell? ⟨w.heap.size + 2, 2, none⟩ = some (.int .i64 0) := (blk_cell Kz1.out 2).trans rfl
  have fz0 := blk_frozen Kz1.out 0
  have fz1 := blk_frozen Kz1.out 1
  have fz2 := blk_frozen Kz1.out 2
  go_wp2
  have hrow := Lib.hid (blk_put (cs := #[.int .i64 hn, .int .i64 av, .int .i64 0]) (cs' := #[.int .i64 hn, .int .i64 av, .int .i64 0]) (blk_put (cs := #[.int .i64 hn, .int .i64 0, .int .i64 0]) (cs' := #[.int .i64 hn, .int .i64 av, .int .i64 0]) (blk_put (cs := #[.int .i64 0, .int .i64 0, .int .i64 0]) (cs' := #[.int .i64 hn, .int .i64 0, .int .i64 0]) Kz1.out 0 (.int .i64 hn) rfl) 1 (.int .i64 av) rfl) 2 (.int .i64 0) rfl)
  have hbz := Lib.hid (show Below w.heap.size w (((wy.setCell ⟨w.heap.size + 2, 0, none⟩ (.int .i64 hn)).setCell ⟨w.heap.size + 2, 1, none⟩ (.int .i64 av)).setCell ⟨w.heap.size + 2, 2, none⟩ (.int .i64 0)) from (((BZ.out).setCell (p := ⟨w.heap.size + 2, 0, none⟩) (by show w.heap.size ≤ w.heap.size + 2; omega) _).setCell (p := ⟨w.heap.size + 2, 1, none⟩) (by show w.heap.size ≤ w.heap.size + 2; omega) _).setCell (p := ⟨w.heap.size + 2, 2, none⟩) (by show w.heap.size ≤ w.heap.size + 2; omega) _)
  revert hrow hbz
  generalize (((wy.setCell ⟨w.heap.size + 2, 0, none⟩ (.int .i64 hn)).setCell ⟨w.heap.size + 2, 1, none⟩ (.int .i64 av)).setCell ⟨w.heap.size + 2, 2, none⟩ (.int .i64 0)) = wz
  intro hrow hbz
  have hld := run_loadVar_row (P := Try.prog) wz (w.heap.size + 2) 99 99 #[.int .i64 hn, .int .i64 av, .int .i64 0] (0, 0) _ hrow.out Try.underlying99 rfl (by kernel_rfl)
  exact bodyPost_ret (v := .agg #[.int .i64 hn, .int .i64 av, .int .i64 0]) (by simp [results, Try.results89, asAddr, hld]) rfl ⟨rfl, hbz.out⟩
set_option maxRecDepth 100000 in
set_option maxHeartbeats 4000000 in
theorem sent_lo (q0 q1 q2 : Int) (c0 : Int) (c1 : Int) (c2 : Nat) (c3 : Int) (c4 : Int) (c5 : Int) (c6 : Int) (c7 : Int) (c8 : Int) (c9 : Bool) (c10 : Bool) (time now d0 d hn st av aw t1 un : Int) (w : World) (hr : ∀ w, Calls Try.prog 139 #[.agg #[.int .i64 c0, .int .i64 c1, .float .f64 c2, .int .i64 c3, .int .i64 c4, .int .i64 c5, .int .i64 c6, .int .i64 c7, .int .i64 c8, .bool c9, .bool c10]] w fun e w' => e = .returned (.bool true) ∧ Below w.heap.size w w') (hs1 : ∀ w, Calls Try.prog 140 #[.int .i64 now, .int .i64 q0] w fun e w' => e = .returned (.int .i64 d0) ∧ w = w')
    (hs2 : ∀ w, Calls Try.prog 140 #[.int .i64 d0, .int .i64 time] w fun e w' => e = .returned (.int .i64 d) ∧ w = w')
    (hn_ : ∀ w, Calls Try.prog 141 #[.int .i64 now] w fun e w' => e = .returned (.int .i64 hn) ∧ w = w')
    (ht : ∀ w, Calls Try.prog 143 #[.int .i64 q1, .int .i64 d, .int .i64 c6] w fun e w' => e = .returned (.int .i64 st) ∧ w = w')
    (hh : ∀ w, Calls Try.prog 142 #[.int .i64 st, .agg #[.int .i64 c0, .int .i64 c1, .float .f64 c2, .int .i64 c3, .int .i64 c4, .int .i64 c5, .int .i64 c6, .int .i64 c7, .int .i64 c8, .bool c9, .bool c10]] w fun e w' => e = .returned (.int .i64 av) ∧ Below w.heap.size w w') (hav : decide (av < 0) = true)
    (ha : ∀ w, Calls Try.prog 144 #[.int .i64 av, .int .i64 c6] w fun e w' => e = .returned (.int .i64 aw) ∧ w = w')
    (h1 : ∀ w, Calls Try.prog 116 #[.int .i64 time, .int .i64 aw] w fun e w' => e = .returned (.int .i64 t1) ∧ w = w')
    (h2 : ∀ w, Calls Try.prog 116 #[.int .i64 now, .int .i64 t1] w fun e w' => e = .returned (.int .i64 un) ∧ w = w') :
    Calls Try.prog 89 #[.agg #[.int .i64 q0, .int .i64 q1, .int .i64 q2], .agg #[.int .i64 c0, .int .i64 c1, .float .f64 c2, .int .i64 c3, .int .i64 c4, .int .i64 c5, .int .i64 c6, .int .i64 c7, .int .i64 c8, .bool c9, .bool c10], .int .i64 time, .int .i64 now] w fun e w' => e = .returned (.agg #[.int .i64 hn, .int .i64 av, .int .i64 un]) ∧ Below w.heap.size w w' := by
  have HA := Lib.hid ha; have H1 := Lib.hid h1; have H2 := Lib.hid h2; clear ha h1 h2
  have hr' := hr
  have HR := Lib.hid hr; have HH := Lib.hid hh; have HN := Lib.hid hn_; have HT := Lib.hid ht; have HS1 := Lib.hid hs1; have HS2 := Lib.hid hs2; clear hr hr' hh hn_ ht hs1 hs2
  go_enter Try.func89, Try.ntmps89
  go_wp2_with fail
  have KsW : Hid ((((w.alloc (.cells #[.int .i64 q0, .int .i64 q1, .int .i64 q2] 99 (0, 0))).alloc (.cells #[.int .i64 c0, .int .i64 c1, .float .f64 c2, .int .i64 c3, .int .i64 c4, .int .i64 c5, .int .i64 c6, .int .i64 c7, .int .i64 c8, .bool c9, .bool c10] 95 (0, 0))).alloc (.cells #[.int .i64 0, .int .i64 0, .int .i64 0] 99 (0, 0))).heap[w.heap.size]? = some (.cells #[.int .i64 q0, .int .i64 q1, .int .i64 q2] 99 (0, 0))) := Lib.hid (blk_alloc (blk_alloc (blk_new w _) _) _)
  have KcW : Hid ((((w.alloc (.cells #[.int .i64 q0, .int .i64 q1, .int .i64 q2] 99 (0, 0))).alloc (.cells #[.int .i64 c0, .int .i64 c1, .float .f64 c2, .int .i64 c3, .int .i64 c4, .int .i64 c5, .int .i64 c6, .int .i64 c7, .int .i64 c8, .bool c9, .bool c10] 95 (0, 0))).alloc (.cells #[.int .i64 0, .int .i64 0, .int .i64 0] 99 (0, 0))).heap[w.heap.size + 1]? = some (.cells #[.int .i64 c0, .int .i64 c1, .float .f64 c2, .int .i64 c3, .int .i64 c4, .int .i64 c5, .int .i64 c6, .int .i64 c7, .int .i64 c8, .bool c9, .bool c10] 95 (0, 0))) := Lib.hid (blk_alloc (new_at _ _ _ (by simp)) _)
  have KzW : Hid ((((w.alloc (.cells #[.int .i64 q0, .int .i64 q1, .int .i64 q2] 99 (0, 0))).alloc (.cells #[.int .i64 c0, .int .i64 c1, .float .f64 c2, .int .i64 c3, .int .i64 c4, .int .i64 c5, .int .i64 c6, .int .i64 c7, .int .i64 c8, .bool c9, .bool c10] 95 (0, 0))).alloc (.cells #[.int .i64 0, .int .i64 0, .int .i64 0] 99 (0, 0))).heap[w.heap.size + 2]? = some (.cells #[.int .i64 0, .int .i64 0, .int .i64 0] 99 (0, 0))) := Lib.hid (new_at _ _ _ (by simp))
  have BBW : Hid (Below w.heap.size w (((w.alloc (.cells #[.int .i64 q0, .int .i64 q1, .int .i64 q2] 99 (0, 0))).alloc (.cells #[.int .i64 c0, .int .i64 c1, .float .f64 c2, .int .i64 c3, .int .i64 c4, .int .i64 c5, .int .i64 c6, .int .i64 c7, .int .i64 c8, .bool c9, .bool c10] 95 (0, 0))).alloc (.cells #[.int .i64 0, .int .i64 0, .int .i64 0] 99 (0, 0)))) := Lib.hid ((((Below.refl w.heap.size w).alloc (Nat.le_refl _) _).alloc (by simp) _).alloc (by simp; omega) _)
  revert KsW KcW KzW BBW
  generalize (((w.alloc (.cells #[.int .i64 q0, .int .i64 q1, .int .i64 q2] 99 (0, 0))).alloc (.cells #[.int .i64 c0, .int .i64 c1, .float .f64 c2, .int .i64 c3, .int .i64 c4, .int .i64 c5, .int .i64 c6, .int .i64 c7, .int .i64 c8, .bool c9, .bool c10] 95 (0, 0))).alloc (.cells #[.int .i64 0, .int .i64 0, .int .i64 0] 99 (0, 0))) = w0
  intro KsW KcW KzW BBW
  (with_reducible refine (HR.out _).mono ?_); rintro e w1 ⟨rfl, hb⟩
  have Ks0 : Hid (w1.heap[w.heap.size]? = some (.cells #[.int .i64 q0, .int .i64 q1, .int .i64 q2] 99 (0, 0))) := Lib.hid (blk_below (by exact KsW.out) hb)
  have Kc0 : Hid (w1.heap[w.heap.size + 1]? = some (.cells #[.int .i64 c0, .int .i64 c1, .float .f64 c2, .int .i64 c3, .int .i64 c4, .int .i64 c5, .int .i64 c6, .int .i64 c7, .int .i64 c8, .bool c9, .bool c10] 95 (0, 0))) := Lib.hid (blk_below (by exact KcW.out) hb)
  have Kz0 : Hid (w1.heap[w.heap.size + 2]? = some (.cells #[.int .i64 0, .int .i64 0, .int .i64 0] 99 (0, 0))) := Lib.hid (blk_below (by exact KzW.out) hb)
  have BB0 : Hid (Below w.heap.size w w1) := Lib.hid (Below.trans (by exact BBW.out) (hb.mono (by have := BBW.out.size; simpa using this)))
  clear hb KsW KcW KzW BBW
  have cs0 : w1.cell? ⟨w.heap.size, 0, none⟩ = some (.int .i64 q0) := (blk_cell Ks0.out 0).trans rfl
  go_wp2_with (first | ((with_reducible refine (HS1.out _).mono ?_); rintro e w' ⟨rfl, rfl⟩) | ((with_reducible refine (HS2.out _).mono ?_); rintro e w' ⟨rfl, rfl⟩))
  clear cs0
  refine start_ (n := 13) (S := fun w' => w'.heap[w.heap.size]? = some (.cells #[.int .i64 q0, .int .i64 q1, .int .i64 q2] 99 (0, 0)) ∧ w'.heap[w.heap.size + 1]? = some (.cells #[.int .i64 c0, .int .i64 c1, .float .f64 c2, .int .i64 c3, .int .i64 c4, .int .i64 c5, .int .i64 c6, .int .i64 c7, .int .i64 c8, .bool c9, .bool c10] 95 (0, 0)) ∧ w'.heap[w.heap.size + 2]? = some (.cells #[.int .i64 0, .int .i64 0, .int .i64 0] 99 (0, 0))) (ds := [12]) #[false, false, false, false, false, false, false, false, false, false, false, false, false] (by kernel_rfl) rfl rfl ⟨Ks0.out, Kc0.out, Kz0.out⟩ (fun hHeld => ?_)
  refine with_tabW rgnSent.tab4 rgnSent.bits4 (fun HT_ HW_ => ?_)
  have nb_ := Lib.hid (below_drew1 BB0.out); clear BB0; have BB0 := nb_; clear nb_
  have n0_ := Lib.hid (blk_drew Ks0.out); have n1_ := Lib.hid (blk_drew Kc0.out); have n2_ := Lib.hid (blk_drew Kz0.out); clear Ks0 Kc0 Kz0; have Ks0 := n0_; have Kc0 := n1_; have Kz0 := n2_; clear n0_ n1_ n2_
  revert Ks0 Kc0 Kz0 BB0 hHeld
  generalize w1.drew = wd
  intro hHeld BB0 Ks0 Kc0 Kz0
  refine pure_ (i := 0) (N := some 21) (v := ?_) (a' := ?_) #[true, false, false, false, false, false, false, false, false, false, false, false, false] rfl rfl (any_of HT_.out (by kernel_rfl)) (fun _ _ _ h => h) (Or.inl ⟨by rfl, ?_⟩) ?_ ?_
  rotate_left
  · intro w'
    go_simp
    with_reducible rfl
  rotate_left
  · simp only [Act.put, List.setIfInBounds_toArray, List.set_cons_zero, List.set_cons_succ, i64_w, i32_w]
    rfl
  refine pure_ (i := 2) (N := some 23) (v := ?_) (a' := ?_) #[true, false, true, false, false, false, false, false, false, false, false, false, false] rfl rfl (any_of HT_.out (by kernel_rfl)) (fun _ _ _ h => h) (Or.inl ⟨by rfl, ?_⟩) ?_ ?_
  rotate_left
  · intro w'
    go_simp
    with_reducible rfl
  rotate_left
  · simp only [Act.put, List.setIfInBounds_toArray, List.set_cons_zero, List.set_cons_succ, i64_w, i32_w]
    rfl
  refine pure_ (i := 4) (N := some 25) (v := ?_) (a' := ?_) #[true, false, true, false, true, false, false, false, false, false, false, false, false] rfl rfl (any_of HT_.out (by kernel_rfl)) (fun _ _ _ h => h) (Or.inl ⟨by rfl, ?_⟩) ?_ ?_
  rotate_left
  · intro w'
    go_simp
    with_reducible rfl
  rotate_left
  · simp only [Act.put, List.setIfInBounds_toArray, List.set_cons_zero, List.set_cons_succ, i64_w, i32_w]
    rfl
  refine pure_ (i := 5) (N := some 26) (v := ?_) (a' := ?_) #[true, false, true, false, true, true, false, false, false, false, false, false, false] rfl rfl (any_of HT_.out (by kernel_rfl)) (fun _ _ _ h => h) (Or.inl ⟨by rfl, ?_⟩) ?_ ?_
  rotate_left
  · intro w'
    go_simp
    with_reducible rfl
  rotate_left
  · simp only [Act.put, List.setIfInBounds_toArray, List.set_cons_zero, List.set_cons_succ, i64_w, i32_w]
    rfl
  refine take_ (i := 3) (N := some 24) (v := ?_) (a' := ?_) #[true, false, true, true, true, true, false, false, false, false, false, false, false] rfl rfl (take_ofW HT_.out HW_.out (by kernel_rfl)) (fun _ _ _ h => h) (Or.inl ⟨by rfl, ?_⟩) hHeld ?_ ?_
  rotate_left
  · rintro w' ⟨s0, s1, s2⟩
    have c_ : w'.cell? ⟨w.heap.size, 1, none⟩ = some (.int .i64 q1) := (blk_cell s0 1).trans rfl
    go_simp
    with_reducible rfl
  rotate_left
  · simp only [Act.put, List.setIfInBounds_toArray, List.set_cons_zero, List.set_cons_succ, i64_w, i32_w]
    rfl
  refine take_ (i := 6) (N := some 27) (v := ?_) (a' := ?_) #[true, false, true, true, true, true, true, false, false, false, false, false, false] rfl rfl (take_ofW HT_.out HW_.out (by kernel_rfl)) (fun _ _ _ h => h) (Or.inl ⟨by rfl, ?_⟩) hHeld ?_ ?_
  rotate_left
  · rintro w' ⟨s0, s1, s2⟩
    have c_ : w'.cell? ⟨w.heap.size + 1, 6, none⟩ = some (.int .i64 c6) := (blk_cell s1 6).trans rfl
    go_simp
    with_reducible rfl
  rotate_left
  · simp only [Act.put, List.setIfInBounds_toArray, List.set_cons_zero, List.set_cons_succ, i64_w, i32_w]
    rfl
  refine take_ (i := 8) (N := some 29) (v := ?_) (a' := ?_) #[true, false, true, true, true, true, true, false, true, false, false, false, false] rfl rfl (take_ofW HT_.out HW_.out (by kernel_rfl)) (fun _ _ _ h => h) (Or.inl ⟨by rfl, ?_⟩) hHeld ?_ ?_
  rotate_left
  · rintro w' ⟨s0, s1, s2⟩
    exact (ldrow (P := Try.prog) 95 _ _ Try.underlying95 rfl (by exact info_c) _ _ (.tmp 5) _ rfl (by rfl) w' s1).trans (by with_reducible rfl)
  rotate_left
  · simp only [Act.put, List.setIfInBounds_toArray, List.set_cons_zero, List.set_cons_succ, i64_w, i32_w]
    rfl
  refine join_ (σ := Nat) 1 #[true, true, true, true, true, true, true, true, true, true, true, true, false] (fun s => [(22, .int .i64 hn), (28, .int .i64 st), (30, .int .i64 av), (10, .pointer (some ⟨s, 0, none⟩)), (31, .agg #[.int .i64 hn, .int .i64 av, .int .i64 0])]) (fun s w' => w'.heap[w.heap.size]? = some (.cells #[.int .i64 q0, .int .i64 q1, .int .i64 q2] 99 (0, 0)) ∧ w'.heap[w.heap.size + 1]? = some (.cells #[.int .i64 c0, .int .i64 c1, .float .f64 c2, .int .i64 c3, .int .i64 c4, .int .i64 c5, .int .i64 c6, .int .i64 c7, .int .i64 c8, .bool c9, .bool c10] 95 (0, 0)) ∧ w'.heap[w.heap.size + 2]? = some (.cells #[.int .i64 0, .int .i64 0, .int .i64 0] 99 (0, 0)) ∧ w'.heap[s]? = some (.cells #[.int .i64 0, .int .i64 0, .int .i64 0] 99 (0, 0)) ∧ w.heap.size < s ∧ w.heap.size + 1 < s ∧ w.heap.size + 2 < s ∧ w.heap.size ≤ s ∧ Below w.heap.size w w') ?_ ?_
  rotate_left
  · intro hCont
    refine two_ (i := 1) (j := 11) (Ni := some 22) (Nj := some 10) #[true, true, true, true, true, true, true, false, true, false, false, false, false] #[true, false, true, true, true, true, true, false, true, false, false, true, false] rfl rfl rfl rfl (two_of HT_.out (by kernel_rfl)) (by decide) (by decide) (fun K hK => ?_) (fun K hK => ?_)
    · skip
      refine goes_ Try.func141 (by kernel_rfl) rfl #[.int .i64 now] (by rfl) rfl rfl (by simp only [List.map_toArray, List.map_cons, List.map_nil]; rfl) ?_
      with_reducible refine (HN.out _).mono ?_
      rintro e u1 ⟨rfl, rfl⟩
      have Ks1 := Ks0
      have Kc1 := Kc0
      have Kz1 := Kz0
      have BB1 := BB0
      refine ⟨_, rfl, ?_⟩
      refine hK.out _ _ ⟨Ks1.out, Kc1.out, Kz1.out⟩ (fun hHeld => ?_)
      clear hK K
      refine norm_ (a' := ?_) ?_ ?_
      rotate_left
      · show Act.put _ (some 22) _ = _
        simp only [Act.put, List.setIfInBounds_toArray, List.set_cons_zero, List.set_cons_succ, i64_w, i32_w]
        rfl
      refine two_ (i := 7) (j := 11) (Ni := some 28) (Nj := some 10) #[true, true, true, true, true, true, true, true, true, false, false, false, false] #[true, true, true, true, true, true, true, false, true, false, false, true, false] rfl rfl rfl rfl (two_of HT_.out (by kernel_rfl)) (by decide) (by decide) (fun K hK => ?_) (fun K hK => ?_)
      · skip
        refine goes_ Try.func143 (by kernel_rfl) rfl #[.int .i64 q1, .int .i64 d, .int .i64 c6] (by rfl) rfl rfl (by simp only [List.map_toArray, List.map_cons, List.map_nil]; rfl) ?_
        with_reducible refine (HT.out _).mono ?_
        rintro e u7 ⟨rfl, rfl⟩
        have Ks2 := Ks1
        have Kc2 := Kc1
        have Kz2 := Kz1
        have BB2 := BB1
        refine ⟨_, rfl, ?_⟩
        refine hK.out _ _ ⟨Ks2.out, Kc2.out, Kz2.out⟩ (fun hHeld => ?_)
        clear hK K
        refine norm_ (a' := ?_) ?_ ?_
        rotate_left
        · show Act.put _ (some 28) _ = _
          simp only [Act.put, List.setIfInBounds_toArray, List.set_cons_zero, List.set_cons_succ, i64_w, i32_w]
          rfl
        refine two_ (i := 9) (j := 11) (Ni := some 30) (Nj := some 10) #[true, true, true, true, true, true, true, true, true, true, false, false, false] #[true, true, true, true, true, true, true, true, true, false, false, true, false] rfl rfl rfl rfl (two_of HT_.out (by kernel_rfl)) (by decide) (by decide) (fun K hK => ?_) (fun K hK => ?_)
        · skip
          refine goes_ Try.func142 (by kernel_rfl) rfl #[.int .i64 st, .agg #[.int .i64 c0, .int .i64 c1, .float .f64 c2, .int .i64 c3, .int .i64 c4, .int .i64 c5, .int .i64 c6, .int .i64 c7, .int .i64 c8, .bool c9, .bool c10]] (by rfl) rfl rfl (by simp only [List.map_toArray, List.map_cons, List.map_nil]; rfl) ?_
          with_reducible refine (HH.out _).mono ?_
          rintro e u9 ⟨rfl, hb⟩
          have Ks3 : Hid (u9.heap[w.heap.size]? = some (.cells #[.int .i64 q0, .int .i64 q1, .int .i64 q2] 99 (0, 0))) := Lib.hid (blk_below (by exact Ks2.out) hb)
          have Kc3 : Hid (u9.heap[w.heap.size + 1]? = some (.cells #[.int .i64 c0, .int .i64 c1, .float .f64 c2, .int .i64 c3, .int .i64 c4, .int .i64 c5, .int .i64 c6, .int .i64 c7, .int .i64 c8, .bool c9, .bool c10] 95 (0, 0))) := Lib.hid (blk_below (by exact Kc2.out) hb)
          have Kz3 : Hid (u9.heap[w.heap.size + 2]? = some (.cells #[.int .i64 0, .int .i64 0, .int .i64 0] 99 (0, 0))) := Lib.hid (blk_below (by exact Kz2.out) hb)
          have BB3 : Hid (Below w.heap.size w u9) := Lib.hid (Below.trans (by exact BB2.out) (hb.mono (by have := BB2.out.size; simpa using this)))
          clear hb
          refine ⟨_, rfl, ?_⟩
          refine hK.out _ _ ⟨Ks3.out, Kc3.out, Kz3.out⟩ (fun hHeld => ?_)
          clear hK K
          refine norm_ (a' := ?_) ?_ ?_
          rotate_left
          · show Act.put _ (some 30) _ = _
            simp only [Act.put, List.setIfInBounds_toArray, List.set_cons_zero, List.set_cons_succ, i64_w, i32_w]
            rfl
          refine pure_ (i := 10) (N := some 31) (v := ?_) (a' := ?_) #[true, true, true, true, true, true, true, true, true, true, true, false, false] rfl rfl (any_of HT_.out (by kernel_rfl)) (fun _ _ _ h => h) (Or.inl ⟨by rfl, ?_⟩) ?_ ?_
          rotate_left
          · intro w'
            go_simp
            with_reducible rfl
          rotate_left
          · simp only [Act.put, List.setIfInBounds_toArray, List.set_cons_zero, List.set_cons_succ, i64_w, i32_w]
            rfl
          refine one_ (i := 11) (N := some 10) #[true, true, true, true, true, true, true, true, true, true, true, true, false] rfl rfl (one_of HT_.out (by kernel_rfl)) (by decide) (fun K hK => ?_)
          refine value_ (w1 := ?_) (v := ?_) (by rfl) rfl ?_ ?_
          rotate_left 2
          · go_simp
            constructor
            · rfl
            · rfl
          have Ks4 : Hid ((u9.alloc (.cells #[.int .i64 0, .int .i64 0, .int .i64 0] 99 (0, 0))).heap[w.heap.size]? = some (.cells #[.int .i64 q0, .int .i64 q1, .int .i64 q2] 99 (0, 0))) := Lib.hid (blk_alloc (by exact Ks3.out) _)
          have Kc4 : Hid ((u9.alloc (.cells #[.int .i64 0, .int .i64 0, .int .i64 0] 99 (0, 0))).heap[w.heap.size + 1]? = some (.cells #[.int .i64 c0, .int .i64 c1, .float .f64 c2, .int .i64 c3, .int .i64 c4, .int .i64 c5, .int .i64 c6, .int .i64 c7, .int .i64 c8, .bool c9, .bool c10] 95 (0, 0))) := Lib.hid (blk_alloc (by exact Kc3.out) _)
          have Kz4 : Hid ((u9.alloc (.cells #[.int .i64 0, .int .i64 0, .int .i64 0] 99 (0, 0))).heap[w.heap.size + 2]? = some (.cells #[.int .i64 0, .int .i64 0, .int .i64 0] 99 (0, 0))) := Lib.hid (blk_alloc (by exact Kz3.out) _)
          have Ko4 : Hid ((u9.alloc (.cells #[.int .i64 0, .int .i64 0, .int .i64 0] 99 (0, 0))).heap[u9.heap.size]? = some (.cells #[.int .i64 0, .int .i64 0, .int .i64 0] 99 (0, 0))) := Lib.hid (new_at _ _ _ (by simp))
          have BB4 : Hid (Below w.heap.size w (u9.alloc (.cells #[.int .i64 0, .int .i64 0, .int .i64 0] 99 (0, 0)))) := Lib.hid (Below.alloc (by exact BB3.out) BB3.out.size _)
          have Lo_s : Hid (w.heap.size < u9.heap.size) := Lib.hid (by have := blk_lt Ks3.out; simpa using this)
          have Lo_c : Hid (w.heap.size + 1 < u9.heap.size) := Lib.hid (by have := blk_lt Kc3.out; simpa using this)
          have Lo_z : Hid (w.heap.size + 2 < u9.heap.size) := Lib.hid (by have := blk_lt Kz3.out; simpa using this)
          have Lo : Hid (w.heap.size ≤ u9.heap.size) := Lib.hid (by have := BB3.out.size; simpa using this)
          refine hK.out _ _ ⟨Ks4.out, Kc4.out, Kz4.out⟩ (fun hHeld => ?_)
          clear hK K
          refine norm_ (a' := ?_) ?_ ?_
          rotate_left
          · show Act.put _ (some 10) _ = _
            simp only [Act.put, List.setIfInBounds_toArray, List.set_cons_zero, List.set_cons_succ, i64_w, i32_w]
            rfl
          exact norm_ (by simp only [putAll, Act.put, List.setIfInBounds_toArray, List.set_cons_zero, List.set_cons_succ]) (hCont u9.heap.size _ ⟨Ks4.out, Kc4.out, Kz4.out, Ko4.out, Lo_s.out, Lo_c.out, Lo_z.out, Lo.out, BB4.out⟩)
        · skip
          refine value_ (w1 := ?_) (v := ?_) (by rfl) rfl ?_ ?_
          rotate_left 2
          · go_simp
            constructor
            · rfl
            · rfl
          have Ks3 : Hid ((wd.alloc (.cells #[.int .i64 0, .int .i64 0, .int .i64 0] 99 (0, 0))).heap[w.heap.size]? = some (.cells #[.int .i64 q0, .int .i64 q1, .int .i64 q2] 99 (0, 0))) := Lib.hid (blk_alloc (by exact Ks2.out) _)
          have Kc3 : Hid ((wd.alloc (.cells #[.int .i64 0, .int .i64 0, .int .i64 0] 99 (0, 0))).heap[w.heap.size + 1]? = some (.cells #[.int .i64 c0, .int .i64 c1, .float .f64 c2, .int .i64 c3, .int .i64 c4, .int .i64 c5, .int .i64 c6, .int .i64 c7, .int .i64 c8, .bool c9, .bool c10] 95 (0, 0))) := Lib.hid (blk_alloc (by exact Kc2.out) _)
          have Kz3 : Hid ((wd.alloc (.cells #[.int .i64 0, .int .i64 0, .int .i64 0] 99 (0, 0))).heap[w.heap.size + 2]? = some (.cells #[.int .i64 0, .int .i64 0, .int .i64 0] 99 (0, 0))) := Lib.hid (blk_alloc (by exact Kz2.out) _)
          have Ko3 : Hid ((wd.alloc (.cells #[.int .i64 0, .int .i64 0, .int .i64 0] 99 (0, 0))).heap[wd.heap.size]? = some (.cells #[.int .i64 0, .int .i64 0, .int .i64 0] 99 (0, 0))) := Lib.hid (new_at _ _ _ (by simp))
          have BB3 : Hid (Below w.heap.size w (wd.alloc (.cells #[.int .i64 0, .int .i64 0, .int .i64 0] 99 (0, 0)))) := Lib.hid (Below.alloc (by exact BB2.out) BB2.out.size _)
          have Lo_s : Hid (w.heap.size < wd.heap.size) := Lib.hid (by have := blk_lt Ks2.out; simpa using this)
          have Lo_c : Hid (w.heap.size + 1 < wd.heap.size) := Lib.hid (by have := blk_lt Kc2.out; simpa using this)
          have Lo_z : Hid (w.heap.size + 2 < wd.heap.size) := Lib.hid (by have := blk_lt Kz2.out; simpa using this)
          have Lo : Hid (w.heap.size ≤ wd.heap.size) := Lib.hid (by have := BB2.out.size; simpa using this)
          refine hK.out _ _ ⟨Ks3.out, Kc3.out, Kz3.out⟩ (fun hHeld => ?_)
          clear hK K
          refine norm_ (a' := ?_) ?_ ?_
          rotate_left
          · show Act.put _ (some 10) _ = _
            simp only [Act.put, List.setIfInBounds_toArray, List.set_cons_zero, List.set_cons_succ, i64_w, i32_w]
            rfl
          refine one_ (i := 9) (N := some 30) #[true, true, true, true, true, true, true, true, true, true, false, true, false] rfl rfl (one_of HT_.out (by kernel_rfl)) (by decide) (fun K hK => ?_)
          refine goes_ Try.func142 (by kernel_rfl) rfl #[.int .i64 st, .agg #[.int .i64 c0, .int .i64 c1, .float .f64 c2, .int .i64 c3, .int .i64 c4, .int .i64 c5, .int .i64 c6, .int .i64 c7, .int .i64 c8, .bool c9, .bool c10]] (by rfl) rfl rfl (by simp only [List.map_toArray, List.map_cons, List.map_nil]; rfl) ?_
          with_reducible refine (HH.out _).mono ?_
          rintro e u9 ⟨rfl, hb⟩
          have Ks4 : Hid (u9.heap[w.heap.size]? = some (.cells #[.int .i64 q0, .int .i64 q1, .int .i64 q2] 99 (0, 0))) := Lib.hid (blk_below (by exact Ks3.out) hb)
          have Kc4 : Hid (u9.heap[w.heap.size + 1]? = some (.cells #[.int .i64 c0, .int .i64 c1, .float .f64 c2, .int .i64 c3, .int .i64 c4, .int .i64 c5, .int .i64 c6, .int .i64 c7, .int .i64 c8, .bool c9, .bool c10] 95 (0, 0))) := Lib.hid (blk_below (by exact Kc3.out) hb)
          have Kz4 : Hid (u9.heap[w.heap.size + 2]? = some (.cells #[.int .i64 0, .int .i64 0, .int .i64 0] 99 (0, 0))) := Lib.hid (blk_below (by exact Kz3.out) hb)
          have Ko4 : Hid (u9.heap[wd.heap.size]? = some (.cells #[.int .i64 0, .int .i64 0, .int .i64 0] 99 (0, 0))) := Lib.hid (blk_below (by exact Ko3.out) hb)
          have BB4 : Hid (Below w.heap.size w u9) := Lib.hid (Below.trans (by exact BB3.out) (hb.mono (by have := BB3.out.size; simpa using this)))
          clear hb
          refine ⟨_, rfl, ?_⟩
          refine hK.out _ _ ⟨Ks4.out, Kc4.out, Kz4.out⟩ (fun hHeld => ?_)
          clear hK K
          refine norm_ (a' := ?_) ?_ ?_
          rotate_left
          · show Act.put _ (some 30) _ = _
            simp only [Act.put, List.setIfInBounds_toArray, List.set_cons_zero, List.set_cons_succ, i64_w, i32_w]
            rfl
          refine pure_ (i := 10) (N := some 31) (v := ?_) (a' := ?_) #[true, true, true, true, true, true, true, true, true, true, true, true, false] rfl rfl (any_of HT_.out (by kernel_rfl)) (fun _ _ _ h => h) (Or.inl ⟨by rfl, ?_⟩) ?_ ?_
          rotate_left
          · intro w'
            go_simp
            with_reducible rfl
          rotate_left
          · simp only [Act.put, List.setIfInBounds_toArray, List.set_cons_zero, List.set_cons_succ, i64_w, i32_w]
            rfl
          exact norm_ (by simp only [putAll, Act.put, List.setIfInBounds_toArray, List.set_cons_zero, List.set_cons_succ]) (hCont wd.heap.size _ ⟨Ks4.out, Kc4.out, Kz4.out, Ko4.out, Lo_s.out, Lo_c.out, Lo_z.out, Lo.out, BB4.out⟩)
      · skip
        refine value_ (w1 := ?_) (v := ?_) (by rfl) rfl ?_ ?_
        rotate_left 2
        · go_simp
          constructor
          · rfl
          · rfl
        have Ks2 : Hid ((wd.alloc (.cells #[.int .i64 0, .int .i64 0, .int .i64 0] 99 (0, 0))).heap[w.heap.size]? = some (.cells #[.int .i64 q0, .int .i64 q1, .int .i64 q2] 99 (0, 0))) := Lib.hid (blk_alloc (by exact Ks1.out) _)
        have Kc2 : Hid ((wd.alloc (.cells #[.int .i64 0, .int .i64 0, .int .i64 0] 99 (0, 0))).heap[w.heap.size + 1]? = some (.cells #[.int .i64 c0, .int .i64 c1, .float .f64 c2, .int .i64 c3, .int .i64 c4, .int .i64 c5, .int .i64 c6, .int .i64 c7, .int .i64 c8, .bool c9, .bool c10] 95 (0, 0))) := Lib.hid (blk_alloc (by exact Kc1.out) _)
        have Kz2 : Hid ((wd.alloc (.cells #[.int .i64 0, .int .i64 0, .int .i64 0] 99 (0, 0))).heap[w.heap.size + 2]? = some (.cells #[.int .i64 0, .int .i64 0, .int .i64 0] 99 (0, 0))) := Lib.hid (blk_alloc (by exact Kz1.out) _)
        have Ko2 : Hid ((wd.alloc (.cells #[.int .i64 0, .int .i64 0, .int .i64 0] 99 (0, 0))).heap[wd.heap.size]? = some (.cells #[.int .i64 0, .int .i64 0, .int .i64 0] 99 (0, 0))) := Lib.hid (new_at _ _ _ (by simp))
        have BB2 : Hid (Below w.heap.size w (wd.alloc (.cells #[.int .i64 0, .int .i64 0, .int .i64 0] 99 (0, 0)))) := Lib.hid (Below.alloc (by exact BB1.out) BB1.out.size _)
        have Lo_s : Hid (w.heap.size < wd.heap.size) := Lib.hid (by have := blk_lt Ks1.out; simpa using this)
        have Lo_c : Hid (w.heap.size + 1 < wd.heap.size) := Lib.hid (by have := blk_lt Kc1.out; simpa using this)
        have Lo_z : Hid (w.heap.size + 2 < wd.heap.size) := Lib.hid (by have := blk_lt Kz1.out; simpa using this)
        have Lo : Hid (w.heap.size ≤ wd.heap.size) := Lib.hid (by have := BB1.out.size; simpa using this)
        refine hK.out _ _ ⟨Ks2.out, Kc2.out, Kz2.out⟩ (fun hHeld => ?_)
        clear hK K
        refine norm_ (a' := ?_) ?_ ?_
        rotate_left
        · show Act.put _ (some 10) _ = _
          simp only [Act.put, List.setIfInBounds_toArray, List.set_cons_zero, List.set_cons_succ, i64_w, i32_w]
          rfl
        refine one_ (i := 7) (N := some 28) #[true, true, true, true, true, true, true, true, true, false, false, true, false] rfl rfl (one_of HT_.out (by kernel_rfl)) (by decide) (fun K hK => ?_)
        refine goes_ Try.func143 (by kernel_rfl) rfl #[.int .i64 q1, .int .i64 d, .int .i64 c6] (by rfl) rfl rfl (by simp only [List.map_toArray, List.map_cons, List.map_nil]; rfl) ?_
        with_reducible refine (HT.out _).mono ?_
        rintro e u7 ⟨rfl, rfl⟩
        have Ks3 := Ks2
        have Kc3 := Kc2
        have Kz3 := Kz2
        have Ko3 := Ko2
        have BB3 := BB2
        refine ⟨_, rfl, ?_⟩
        refine hK.out _ _ ⟨Ks3.out, Kc3.out, Kz3.out⟩ (fun hHeld => ?_)
        clear hK K
        refine norm_ (a' := ?_) ?_ ?_
        rotate_left
        · show Act.put _ (some 28) _ = _
          simp only [Act.put, List.setIfInBounds_toArray, List.set_cons_zero, List.set_cons_succ, i64_w, i32_w]
          rfl
        refine one_ (i := 9) (N := some 30) #[true, true, true, true, true, true, true, true, true, true, false, true, false] rfl rfl (one_of HT_.out (by kernel_rfl)) (by decide) (fun K hK => ?_)
        refine goes_ Try.func142 (by kernel_rfl) rfl #[.int .i64 st, .agg #[.int .i64 c0, .int .i64 c1, .float .f64 c2, .int .i64 c3, .int .i64 c4, .int .i64 c5, .int .i64 c6, .int .i64 c7, .int .i64 c8, .bool c9, .bool c10]] (by rfl) rfl rfl (by simp only [List.map_toArray, List.map_cons, List.map_nil]; rfl) ?_
        with_reducible refine (HH.out _).mono ?_
        rintro e u9 ⟨rfl, hb⟩
        have Ks4 : Hid (u9.heap[w.heap.size]? = some (.cells #[.int .i64 q0, .int .i64 q1, .int .i64 q2] 99 (0, 0))) := Lib.hid (blk_below (by exact Ks3.out) hb)
        have Kc4 : Hid (u9.heap[w.heap.size + 1]? = some (.cells #[.int .i64 c0, .int .i64 c1, .float .f64 c2, .int .i64 c3, .int .i64 c4, .int .i64 c5, .int .i64 c6, .int .i64 c7, .int .i64 c8, .bool c9, .bool c10] 95 (0, 0))) := Lib.hid (blk_below (by exact Kc3.out) hb)
        have Kz4 : Hid (u9.heap[w.heap.size + 2]? = some (.cells #[.int .i64 0, .int .i64 0, .int .i64 0] 99 (0, 0))) := Lib.hid (blk_below (by exact Kz3.out) hb)
        have Ko4 : Hid (u9.heap[wd.heap.size]? = some (.cells #[.int .i64 0, .int .i64 0, .int .i64 0] 99 (0, 0))) := Lib.hid (blk_below (by exact Ko3.out) hb)
        have BB4 : Hid (Below w.heap.size w u9) := Lib.hid (Below.trans (by exact BB3.out) (hb.mono (by have := BB3.out.size; simpa using this)))
        clear hb
        refine ⟨_, rfl, ?_⟩
        refine hK.out _ _ ⟨Ks4.out, Kc4.out, Kz4.out⟩ (fun hHeld => ?_)
        clear hK K
        refine norm_ (a' := ?_) ?_ ?_
        rotate_left
        · show Act.put _ (some 30) _ = _
          simp only [Act.put, List.setIfInBounds_toArray, List.set_cons_zero, List.set_cons_succ, i64_w, i32_w]
          rfl
        refine pure_ (i := 10) (N := some 31) (v := ?_) (a' := ?_) #[true, true, true, true, true, true, true, true, true, true, true, true, false] rfl rfl (any_of HT_.out (by kernel_rfl)) (fun _ _ _ h => h) (Or.inl ⟨by rfl, ?_⟩) ?_ ?_
        rotate_left
        · intro w'
          go_simp
          with_reducible rfl
        rotate_left
        · simp only [Act.put, List.setIfInBounds_toArray, List.set_cons_zero, List.set_cons_succ, i64_w, i32_w]
          rfl
        exact norm_ (by simp only [putAll, Act.put, List.setIfInBounds_toArray, List.set_cons_zero, List.set_cons_succ]) (hCont wd.heap.size _ ⟨Ks4.out, Kc4.out, Kz4.out, Ko4.out, Lo_s.out, Lo_c.out, Lo_z.out, Lo.out, BB4.out⟩)
    · skip
      refine value_ (w1 := ?_) (v := ?_) (by rfl) rfl ?_ ?_
      rotate_left 2
      · go_simp
        constructor
        · rfl
        · rfl
      have Ks1 : Hid ((wd.alloc (.cells #[.int .i64 0, .int .i64 0, .int .i64 0] 99 (0, 0))).heap[w.heap.size]? = some (.cells #[.int .i64 q0, .int .i64 q1, .int .i64 q2] 99 (0, 0))) := Lib.hid (blk_alloc (by exact Ks0.out) _)
      have Kc1 : Hid ((wd.alloc (.cells #[.int .i64 0, .int .i64 0, .int .i64 0] 99 (0, 0))).heap[w.heap.size + 1]? = some (.cells #[.int .i64 c0, .int .i64 c1, .float .f64 c2, .int .i64 c3, .int .i64 c4, .int .i64 c5, .int .i64 c6, .int .i64 c7, .int .i64 c8, .bool c9, .bool c10] 95 (0, 0))) := Lib.hid (blk_alloc (by exact Kc0.out) _)
      have Kz1 : Hid ((wd.alloc (.cells #[.int .i64 0, .int .i64 0, .int .i64 0] 99 (0, 0))).heap[w.heap.size + 2]? = some (.cells #[.int .i64 0, .int .i64 0, .int .i64 0] 99 (0, 0))) := Lib.hid (blk_alloc (by exact Kz0.out) _)
      have Ko1 : Hid ((wd.alloc (.cells #[.int .i64 0, .int .i64 0, .int .i64 0] 99 (0, 0))).heap[wd.heap.size]? = some (.cells #[.int .i64 0, .int .i64 0, .int .i64 0] 99 (0, 0))) := Lib.hid (new_at _ _ _ (by simp))
      have BB1 : Hid (Below w.heap.size w (wd.alloc (.cells #[.int .i64 0, .int .i64 0, .int .i64 0] 99 (0, 0)))) := Lib.hid (Below.alloc (by exact BB0.out) BB0.out.size _)
      have Lo_s : Hid (w.heap.size < wd.heap.size) := Lib.hid (by have := blk_lt Ks0.out; simpa using this)
      have Lo_c : Hid (w.heap.size + 1 < wd.heap.size) := Lib.hid (by have := blk_lt Kc0.out; simpa using this)
      have Lo_z : Hid (w.heap.size + 2 < wd.heap.size) := Lib.hid (by have := blk_lt Kz0.out; simpa using this)
      have Lo : Hid (w.heap.size ≤ wd.heap.size) := Lib.hid (by have := BB0.out.size; simpa using this)
      refine hK.out _ _ ⟨Ks1.out, Kc1.out, Kz1.out⟩ (fun hHeld => ?_)
      clear hK K
      refine norm_ (a' := ?_) ?_ ?_
      rotate_left
      · show Act.put _ (some 10) _ = _
        simp only [Act.put, List.setIfInBounds_toArray, List.set_cons_zero, List.set_cons_succ, i64_w, i32_w]
        rfl
      refine one_ (i := 1) (N := some 22) #[true, true, true, true, true, true, true, false, true, false, false, true, false] rfl rfl (one_of HT_.out (by kernel_rfl)) (by decide) (fun K hK => ?_)
      refine goes_ Try.func141 (by kernel_rfl) rfl #[.int .i64 now] (by rfl) rfl rfl (by simp only [List.map_toArray, List.map_cons, List.map_nil]; rfl) ?_
      with_reducible refine (HN.out _).mono ?_
      rintro e u1 ⟨rfl, rfl⟩
      have Ks2 := Ks1
      have Kc2 := Kc1
      have Kz2 := Kz1
      have Ko2 := Ko1
      have BB2 := BB1
      refine ⟨_, rfl, ?_⟩
      refine hK.out _ _ ⟨Ks2.out, Kc2.out, Kz2.out⟩ (fun hHeld => ?_)
      clear hK K
      refine norm_ (a' := ?_) ?_ ?_
      rotate_left
      · show Act.put _ (some 22) _ = _
        simp only [Act.put, List.setIfInBounds_toArray, List.set_cons_zero, List.set_cons_succ, i64_w, i32_w]
        rfl
      refine one_ (i := 7) (N := some 28) #[true, true, true, true, true, true, true, true, true, false, false, true, false] rfl rfl (one_of HT_.out (by kernel_rfl)) (by decide) (fun K hK => ?_)
      refine goes_ Try.func143 (by kernel_rfl) rfl #[.int .i64 q1, .int .i64 d, .int .i64 c6] (by rfl) rfl rfl (by simp only [List.map_toArray, List.map_cons, List.map_nil]; rfl) ?_
      with_reducible refine (HT.out _).mono ?_
      rintro e u7 ⟨rfl, rfl⟩
      have Ks3 := Ks2
      have Kc3 := Kc2
      have Kz3 := Kz2
      have Ko3 := Ko2
      have BB3 := BB2
      refine ⟨_, rfl, ?_⟩
      refine hK.out _ _ ⟨Ks3.out, Kc3.out, Kz3.out⟩ (fun hHeld => ?_)
      clear hK K
      refine norm_ (a' := ?_) ?_ ?_
      rotate_left
      · show Act.put _ (some 28) _ = _
        simp only [Act.put, List.setIfInBounds_toArray, List.set_cons_zero, List.set_cons_succ, i64_w, i32_w]
        rfl
      refine one_ (i := 9) (N := some 30) #[true, true, true, true, true, true, true, true, true, true, false, true, false] rfl rfl (one_of HT_.out (by kernel_rfl)) (by decide) (fun K hK => ?_)
      refine goes_ Try.func142 (by kernel_rfl) rfl #[.int .i64 st, .agg #[.int .i64 c0, .int .i64 c1, .float .f64 c2, .int .i64 c3, .int .i64 c4, .int .i64 c5, .int .i64 c6, .int .i64 c7, .int .i64 c8, .bool c9, .bool c10]] (by rfl) rfl rfl (by simp only [List.map_toArray, List.map_cons, List.map_nil]; rfl) ?_
      with_reducible refine (HH.out _).mono ?_
      rintro e u9 ⟨rfl, hb⟩
      have Ks4 : Hid (u9.heap[w.heap.size]? = some (.cells #[.int .i64 q0, .int .i64 q1, .int .i64 q2] 99 (0, 0))) := Lib.hid (blk_below (by exact Ks3.out) hb)
      have Kc4 : Hid (u9.heap[w.heap.size + 1]? = some (.cells #[.int .i64 c0, .int .i64 c1, .float .f64 c2, .int .i64 c3, .int .i64 c4, .int .i64 c5, .int .i64 c6, .int .i64 c7, .int .i64 c8, .bool c9, .bool c10] 95 (0, 0))) := Lib.hid (blk_below (by exact Kc3.out) hb)
      have Kz4 : Hid (u9.heap[w.heap.size + 2]? = some (.cells #[.int .i64 0, .int .i64 0, .int .i64 0] 99 (0, 0))) := Lib.hid (blk_below (by exact Kz3.out) hb)
      have Ko4 : Hid (u9.heap[wd.heap.size]? = some (.cells #[.int .i64 0, .int .i64 0, .int .i64 0] 99 (0, 0))) := Lib.hid (blk_below (by exact Ko3.out) hb)
      have BB4 : Hid (Below w.heap.size w u9) := Lib.hid (Below.trans (by exact BB3.out) (hb.mono (by have := BB3.out.size; simpa using this)))
      clear hb
      refine ⟨_, rfl, ?_⟩
      refine hK.out _ _ ⟨Ks4.out, Kc4.out, Kz4.out⟩ (fun hHeld => ?_)
      clear hK K
      refine norm_ (a' := ?_) ?_ ?_
      rotate_left
      · show Act.put _ (some 30) _ = _
        simp only [Act.put, List.setIfInBounds_toArray, List.set_cons_zero, List.set_cons_succ, i64_w, i32_w]
        rfl
      refine pure_ (i := 10) (N := some 31) (v := ?_) (a' := ?_) #[true, true, true, true, true, true, true, true, true, true, true, true, false] rfl rfl (any_of HT_.out (by kernel_rfl)) (fun _ _ _ h => h) (Or.inl ⟨by rfl, ?_⟩) ?_ ?_
      rotate_left
      · intro w'
        go_simp
        with_reducible rfl
      rotate_left
      · simp only [Act.put, List.setIfInBounds_toArray, List.set_cons_zero, List.set_cons_succ, i64_w, i32_w]
        rfl
      exact norm_ (by simp only [putAll, Act.put, List.setIfInBounds_toArray, List.set_cons_zero, List.set_cons_succ]) (hCont wd.heap.size _ ⟨Ks4.out, Kc4.out, Kz4.out, Ko4.out, Lo_s.out, Lo_c.out, Lo_z.out, Lo.out, BB4.out⟩)
  rintro go wj ⟨s0, s1, s2, ko, lo_s, lo_c, lo_z, lo, bj⟩
  have Ko := Lib.hid ko; have Lo_s := Lib.hid lo_s; have Lo_c := Lib.hid lo_c; have Lo_z := Lib.hid lo_z; have Lo := Lib.hid lo; have BJ := Lib.hid bj; have Ksj := Lib.hid s0; have Kcj := Lib.hid s1; have Kzj := Lib.hid s2
  clear ko lo_s lo_c lo_z lo bj
  have hHeld : wj.heap[w.heap.size]? = some (.cells #[.int .i64 q0, .int .i64 q1, .int .i64 q2] 99 (0, 0)) ∧ wj.heap[w.heap.size + 1]? = some (.cells #[.int .i64 c0, .int .i64 c1, .float .f64 c2, .int .i64 c3, .int .i64 c4, .int .i64 c5, .int .i64 c6, .int .i64 c7, .int .i64 c8, .bool c9, .bool c10] 95 (0, 0)) ∧ wj.heap[w.heap.size + 2]? = some (.cells #[.int .i64 0, .int .i64 0, .int .i64 0] 99 (0, 0)) := ⟨s0, s1, s2⟩
  clear s0 s1 s2
  refine norm_ (a' := ?_) ?_ ?_
  rotate_left
  · simp only [putAll, Act.put, List.setIfInBounds_toArray, List.set_cons_zero, List.set_cons_succ]
    rfl
  refine last_ (i := 12) (N := none) #[true, true, true, true, true, true, true, true, true, true, true, true, true] rfl rfl (one_of HT_.out (by kernel_rfl)) (by decide) (fun K hK => ?_)
  rw [if_pos (by rfl)]
  refine wp_store_row 99 (.tmp 10) (.tmp 31) rfl go #[.int .i64 hn, .int .i64 av, .int .i64 0] rfl rfl 99 _ Ko.out (by exact info_s) (by rfl) (by simp [Value.oneCell']) ?_
  refine hK.out _ _ ?_
  clear hK K
  refine done_ (done_of HT_.out (by kernel_rfl)) ?_
  have Ko : Hid ((wj.setRow go #[.int .i64 hn, .int .i64 av, .int .i64 0]).heap[go]? = some (.cells #[.int .i64 hn, .int .i64 av, .int .i64 0] 99 (0, 0))) := Lib.hid (setRow_heap _ go _ _ 99 _ Ko.out)
  have Kc1 : Hid ((wj.setRow go #[.int .i64 hn, .int .i64 av, .int .i64 0]).heap[w.heap.size + 1]? = some (.cells #[.int .i64 c0, .int .i64 c1, .float .f64 c2, .int .i64 c3, .int .i64 c4, .int .i64 c5, .int .i64 c6, .int .i64 c7, .int .i64 c8, .bool c9, .bool c10] 95 (0, 0))) := Lib.hid ((setRow_other _ go _ _ (by have := Lo_c.out; omega)).trans Kcj.out)
  have Kz1 : Hid ((wj.setRow go #[.int .i64 hn, .int .i64 av, .int .i64 0]).heap[w.heap.size + 2]? = some (.cells #[.int .i64 0, .int .i64 0, .int .i64 0] 99 (0, 0))) := Lib.hid ((setRow_other _ go _ _ (by have := Lo_z.out; omega)).trans Kzj.out)
  have BZ : Hid (Below w.heap.size w (wj.setRow go #[.int .i64 hn, .int .i64 av, .int .i64 0])) := Lib.hid (below_setRow BJ.out Lo.out _)
  have NZ : Hid (go ≠ w.heap.size + 2) := Lib.hid (by have := Lo_z.out; omega)
  have LO := Lo; clear Lo BJ hHeld Ksj Kcj Kzj Lo_s Lo_c Lo_z
  revert Ko Kc1 Kz1 BZ
  generalize wj.setRow go #[.int .i64 hn, .int .i64 av, .int .i64 0] = wy
  intro Ko Kc1 Kz1 BZ
  simp only [Act.put]
  have co0 : wy.cell? ⟨go, 0, none⟩ = some (.int .i64 hn) := (blk_cell Ko.out 0).trans rfl
  have co1 : wy.cell? ⟨go, 1, none⟩ = some (.int .i64 av) := (blk_cell Ko.out 1).trans rfl
  have co2 : wy.cell? ⟨go, 2, none⟩ = some (.int .i64 0) := (blk_cell Ko.out 2).trans rfl
  have fo2 := blk_frozen Ko.out 2
  have cc6 : wy.cell? ⟨w.heap.size + 1, 6, none⟩ = some (.int .i64 c6) := (blk_cell Kc1.out 6).trans rfl
  have cz0 : wy.cell? ⟨w.heap.size + 2, 0, none⟩ = some (.int .i64 0) := (blk_cell Kz1.out 0).trans rfl
  have cz1 : wy.cell? ⟨w.heap.size + 2, 1, none⟩ = some (.int .i64 0) := (blk_cell Kz1.out 1).trans rfl
  have cz2 : wy.cell? ⟨w.heap.size + 2, 2, none⟩ = some (.int .i64 0) := (blk_cell Kz1.out 2).trans rfl
  have fz0 := blk_frozen Kz1.out 0
  have fz1 := blk_frozen Kz1.out 1
  have fz2 := blk_frozen Kz1.out 2
  have n1_ : ¬ (go = w.heap.size + 2) := NZ.out
  have n2_ : ¬ (w.heap.size + 2 = go) := Ne.symm NZ.out
  go_wp2_with (first | ((with_reducible refine (HA.out _).mono ?_); rintro e w' ⟨rfl, rfl⟩) | ((with_reducible refine (H1.out _).mono ?_); rintro e w' ⟨rfl, rfl⟩) | ((with_reducible refine (H2.out _).mono ?_); rintro e w' ⟨rfl, rfl⟩))
  have hrow := Lib.hid (blk_put (cs := #[.int .i64 hn, .int .i64 av, .int .i64 0]) (cs' := #[.int .i64 hn, .int .i64 av, .int .i64 un]) (blk_put (cs := #[.int .i64 hn, .int .i64 0, .int .i64 0]) (cs' := #[.int .i64 hn, .int .i64 av, .int .i64 0]) (blk_put (cs := #[.int .i64 0, .int .i64 0, .int .i64 0]) (cs' := #[.int .i64 hn, .int .i64 0, .int .i64 0]) (blk_far Kz1.out (p := ⟨go, 2, none⟩) (show w.heap.size + 2 ≠ go from Ne.symm NZ.out) (.int .i64 un)) 0 (.int .i64 hn) rfl) 1 (.int .i64 av) rfl) 2 (.int .i64 un) rfl)
  have hbz := Lib.hid (show Below w.heap.size w ((((wy.setCell ⟨go, 2, none⟩ (.int .i64 un)).setCell ⟨w.heap.size + 2, 0, none⟩ (.int .i64 hn)).setCell ⟨w.heap.size + 2, 1, none⟩ (.int .i64 av)).setCell ⟨w.heap.size + 2, 2, none⟩ (.int .i64 un)) from ((((BZ.out.setCell (p := ⟨go, 2, none⟩) (by show w.heap.size ≤ go; exact LO.out) (.int .i64 un))).setCell (p := ⟨w.heap.size + 2, 0, none⟩) (by show w.heap.size ≤ w.heap.size + 2; omega) _).setCell (p := ⟨w.heap.size + 2, 1, none⟩) (by show w.heap.size ≤ w.heap.size + 2; omega) _).setCell (p := ⟨w.heap.size + 2, 2, none⟩) (by show w.heap.size ≤ w.heap.size + 2; omega) _)
  revert hrow hbz
  generalize ((((wy.setCell ⟨go, 2, none⟩ (.int .i64 un)).setCell ⟨w.heap.size + 2, 0, none⟩ (.int .i64 hn)).setCell ⟨w.heap.size + 2, 1, none⟩ (.int .i64 av)).setCell ⟨w.heap.size + 2, 2, none⟩ (.int .i64 un)) = wz
  intro hrow hbz
  have hld := run_loadVar_row (P := Try.prog) wz (w.heap.size + 2) 99 99 #[.int .i64 hn, .int .i64 av, .int .i64 un] (0, 0) _ hrow.out Try.underlying99 rfl (by kernel_rfl)
  exact bodyPost_ret (v := .agg #[.int .i64 hn, .int .i64 av, .int .i64 un]) (by simp [results, Try.results89, asAddr, hld]) rfl ⟨rfl, hbz.out⟩
end Go.Proofs.Ytclfambjkolckaa.IdleSent
