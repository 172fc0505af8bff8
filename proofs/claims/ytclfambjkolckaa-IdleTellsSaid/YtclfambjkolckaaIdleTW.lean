/- The law IdleTells, walked by its one way. -/
import Derived.Test.YtclfambjkolckaaWTab
import Derived.Test.YtclfambjkolckaaWMore
import Derived.Lib.Hide
import Derived.Laws.Tables
import Derived.Laws.CopyOwn
import Derived.Test.YtclfambjkolckaaLd
import Derived.Test.YtclfambjkolckaaProg
namespace Go.Proofs.Ytclfambjkolckaa.IdleTW
open Go Go.RowKit Go.Proofs.Ytclfambjkolckaa.Ld Go.Proofs.YtclfambjkolckaaW.PrintWords Go.Proofs.YtclfambjkolckaaW.PrintLast Go.Proofs.YtclfambjkolckaaW.PrintMore
set_option linter.unusedVariables false
set_option linter.unusedSimpArgs false
theorem info_s : (Try.prog.info? 99).map (·.size) = some 3 := by kernel_rfl
theorem info_p : (Try.prog.info? 99).map (·.size) = some 3 := by kernel_rfl
theorem info_r : (Try.prog.info? 104).map (·.size) = some 3 := by kernel_rfl
theorem info_c : (Try.prog.info? 95).map (·.size) = some 11 := by kernel_rfl
def rgnIdleTells.T1 : Bool × List (List Nat × List Nat) := (true, [([], []), ([], []), ([], []), ([2], [2]), ([], []), ([4], [4]), ([0, 1, 3, 5], [0, 1, 3, 5]), ([], []), ([], []), ([], []), ([9], [9]), ([], []), ([11], [11]), ([7, 8, 10, 12, 6], [7, 8, 10, 12]), ([], []), ([], []), ([14, 6, 13, 0, 1, 2, 3, 4, 5, 6, 14, 15], [6, 14]), ([15, 13, 16, 0, 1, 2, 3, 4, 5, 6, 7, 8, 9, 10, 11, 12, 13, 14, 15, 16], [13, 15])])
def rgnIdleTells.B1 : List Nat := [0, 0, 0, 4, 0, 16, 63, 0, 0, 0, 512, 0, 2048, 8191, 0, 0, 65535, 131071]
theorem rgnIdleTells.tab1 : rtab .any (opsOf Try.f15 1) = rgnIdleTells.T1 := by kernel_rfl
theorem rgnIdleTells.bits1 : waitsOk rgnIdleTells.T1.2 rgnIdleTells.B1 = true := by kernel_rfl
def rgnIdleTells.T2 : Bool × List (List Nat × List Nat) := (true, [([], []), ([], []), ([0, 1], [0, 1]), ([2], [2]), ([3], [3]), ([3], [3]), ([5, 3], [3, 5]), ([4, 6, 3, 3], [3, 4, 6]), ([3], [3]), ([3], [3]), ([9, 3], [3, 9]), ([8, 10, 7, 3], [3, 8, 10]), ([7, 11, 3], [3, 7, 11]), ([3, 12], [3, 12]), ([13, 11], [13]), ([14], [14]), ([14], [14]), ([15, 16, 14, 14], [14, 15, 16]), ([14], [14]), ([14], [14]), ([18, 19, 17, 14], [14, 18, 19]), ([17, 20, 14], [14, 17, 20]), ([14, 21], [14, 21]), ([22, 20], [22]), ([23], [23]), ([23], [23]), ([25, 23], [23, 25]), ([24, 26, 23, 23], [23, 24, 26]), ([23], [23]), ([23], [23]), ([29, 23], [23, 29]), ([28, 30, 27, 23], [23, 28, 30]), ([27, 31, 23], [23, 27, 31]), ([23, 32], [23, 32]), ([33, 31], [33]), ([34], [34]), ([34], [34]), ([36, 34], [34, 36]), ([35, 37, 34, 34], [34, 35, 37]), ([34], [34]), ([34], [34]), ([40, 34], [34, 40]), ([39, 41, 38, 34], [34, 39, 41]), ([38, 42, 34], [34, 38, 42]), ([34, 43], [34, 43]), ([44, 42], [44]), ([45, 45], [45]), ([45, 46], [45, 46]), ([47, 46, 0, 1, 2, 3, 4, 5, 6, 7, 8, 9, 10, 11, 12, 13, 14, 15, 16, 17, 18, 19, 20, 21, 22, 23, 24, 25, 26, 27, 28, 29, 30, 31, 32, 33, 34, 35, 36, 37, 38, 39, 40, 41, 42, 43, 44, 45, 46, 47], [47])])
def rgnIdleTells.B2 : List Nat := [0, 0, 3, 7, 15, 15, 47, 127, 15, 15, 527, 2047, 4095, 8191, 16383, 32767, 32767, 131071, 32767, 32767, 1048575, 2097151, 4194303, 8388607, 16777215, 16777215, 50331647, 134217727, 16777215, 16777215, 553648127, 2147483647, 4294967295, 8589934591, 17179869183, 34359738367, 34359738367, 103079215103, 274877906943, 34359738367, 34359738367, 1133871366143, 4398046511103, 8796093022207, 17592186044415, 35184372088831, 70368744177663, 140737488355327, 281474976710655]
theorem rgnIdleTells.tab2 : rtab .any (opsOf Try.f15 2) = rgnIdleTells.T2 := by kernel_rfl
theorem rgnIdleTells.bits2 : waitsOk rgnIdleTells.T2.2 rgnIdleTells.B2 = true := by kernel_rfl
set_option maxRecDepth 100000 in
set_option maxHeartbeats 8000000 in
theorem way (q0 q1 q2 a0 a1 t0 t1 t2 n0 n1 n2 y0 y1 y2 lf : Int) (ov : Bool) (c0 : Int) (c1 : Int) (c2 : Nat) (c3 : Int) (c4 : Int) (c5 : Int) (c6 : Int) (c7 : Int) (c8 : Int) (c9 : Bool) (c10 : Bool) (w : World)
    (h1 : ∀ w, Calls Try.prog 89 #[.agg #[.int .i64 q0, .int .i64 q1, .int .i64 q2], .agg #[.int .i64 c0, .int .i64 c1, .float .f64 c2, .int .i64 c3, .int .i64 c4, .int .i64 c5, .int .i64 c6, .int .i64 c7, .int .i64 c8, .bool c9, .bool c10], .int .i64 a0, .int .i64 a1] w fun e w' => e = .returned (.agg #[.int .i64 t0, .int .i64 t1, .int .i64 t2]) ∧ Below w.heap.size w w')
    (h2 : ∀ w, Calls Try.prog 93 #[.agg #[.int .i64 q0, .int .i64 q1, .int .i64 q2], .agg #[.int .i64 c0, .int .i64 c1, .float .f64 c2, .int .i64 c3, .int .i64 c4, .int .i64 c5, .int .i64 c6, .int .i64 c7, .int .i64 c8, .bool c9, .bool c10], .int .i64 a0, .int .i64 a1] w fun e w' => e = .returned (.agg #[.int .i64 t0, .int .i64 t1, .int .i64 t2]) ∧ Below w.heap.size w w')
    (h3 : ∀ w, Calls Try.prog 90 #[.agg #[.int .i64 c0, .int .i64 c1, .float .f64 c2, .int .i64 c3, .int .i64 c4, .int .i64 c5, .int .i64 c6, .int .i64 c7, .int .i64 c8, .bool c9, .bool c10], .int .i64 a1] w fun e w' => e = .returned (.agg #[.int .i64 n0, .int .i64 n1, .int .i64 n2]) ∧ Below w.heap.size w w')
    (h4 : ∀ w, Calls Try.prog 92 #[.agg #[.int .i64 c0, .int .i64 c1, .float .f64 c2, .int .i64 c3, .int .i64 c4, .int .i64 c5, .int .i64 c6, .int .i64 c7, .int .i64 c8, .bool c9, .bool c10], .int .i64 a1] w fun e w' => e = .returned (.agg #[.int .i64 n0, .int .i64 n1, .int .i64 n2]) ∧ Below w.heap.size w w')
    (h5 : ∀ w, Calls Try.prog 95 #[.agg #[.int .i64 q0, .int .i64 q1, .int .i64 q2], .agg #[.int .i64 c0, .int .i64 c1, .float .f64 c2, .int .i64 c3, .int .i64 c4, .int .i64 c5, .int .i64 c6, .int .i64 c7, .int .i64 c8, .bool c9, .bool c10]] w fun e w' => e = .returned (.agg #[.int .i64 y0, .int .i64 y1, .int .i64 y2]) ∧ Below w.heap.size w w')
    (h6 : ∀ w, Calls Try.prog 96 #[.agg #[.int .i64 q0, .int .i64 q1, .int .i64 q2], .agg #[.int .i64 c0, .int .i64 c1, .float .f64 c2, .int .i64 c3, .int .i64 c4, .int .i64 c5, .int .i64 c6, .int .i64 c7, .int .i64 c8, .bool c9, .bool c10]] w fun e w' => e = .returned (.agg #[.int .i64 y0, .int .i64 y1, .int .i64 y2]) ∧ Below w.heap.size w w')
    (h7 : ∀ w, Calls Try.prog 91 #[.agg #[.int .i64 q0, .int .i64 q1, .int .i64 q2], .int .i64 a1] w fun e w' => e = .returned (.bool ov) ∧ Below w.heap.size w w')
    (h8 : ∀ w, Calls Try.prog 97 #[.agg #[.int .i64 q0, .int .i64 q1, .int .i64 q2], .int .i64 a1] w fun e w' => e = .returned (.bool ov) ∧ Below w.heap.size w w')
    (h9 : ∀ w, Calls Try.prog 98 #[.agg #[.int .i64 q0, .int .i64 q1, .int .i64 q2], .int .i64 a1] w fun e w' => e = .returned (.int .i64 lf) ∧ Below w.heap.size w w')
    (h10 : ∀ w, Calls Try.prog 99 #[.agg #[.int .i64 q0, .int .i64 q1, .int .i64 q2], .int .i64 a1] w fun e w' => e = .returned (.int .i64 lf) ∧ Below w.heap.size w w')
    (h11 : ∀ w, Calls Try.prog 87 #[] w fun e w' => e = .returned (.bool true) ∧ Below w.heap.size w w') :
    Calls Try.prog 15 #[.agg #[.int .i64 q0, .int .i64 q1, .int .i64 q2], .agg #[.int .i64 c0, .int .i64 c1, .float .f64 c2, .int .i64 c3, .int .i64 c4, .int .i64 c5, .int .i64 c6, .int .i64 c7, .int .i64 c8, .bool c9, .bool c10], .agg #[.int .i64 a0, .int .i64 a1]] w fun e w' => e = .returned (.bool true) ∧ Below w.heap.size w w' := by
  have H1 := Lib.hid h1; clear h1
  have H2 := Lib.hid h2; clear h2
  have H3 := Lib.hid h3; clear h3
  have H4 := Lib.hid h4; clear h4
  have H5 := Lib.hid h5; clear h5
  have H6 := Lib.hid h6; clear h6
  have H7 := Lib.hid h7; clear h7
  have H8 := Lib.hid h8; clear h8
  have H9 := Lib.hid h9; clear h9
  have H10 := Lib.hid h10; clear h10
  have H11 := Lib.hid h11; clear h11
  go_enter Try.func15, Try.ntmps15
  go_wp2_with fail
  have Ks0 : Hid ((((w.alloc (.cells #[.int .i64 q0, .int .i64 q1, .int .i64 q2] 99 (0, 0))).alloc (.cells #[.int .i64 c0, .int .i64 c1, .float .f64 c2, .int .i64 c3, .int .i64 c4, .int .i64 c5, .int .i64 c6, .int .i64 c7, .int .i64 c8, .bool c9, .bool c10] 95 (0, 0))).alloc (.cells #[.int .i64 a0, .int .i64 a1] 62 (0, 0))).heap[w.heap.size]? = some (.cells #[.int .i64 q0, .int .i64 q1, .int .i64 q2] 99 (0, 0))) := Lib.hid (blk_alloc (blk_alloc (blk_new w _) _) _)
  have Kc0 : Hid ((((w.alloc (.cells #[.int .i64 q0, .int .i64 q1, .int .i64 q2] 99 (0, 0))).alloc (.cells #[.int .i64 c0, .int .i64 c1, .float .f64 c2, .int .i64 c3, .int .i64 c4, .int .i64 c5, .int .i64 c6, .int .i64 c7, .int .i64 c8, .bool c9, .bool c10] 95 (0, 0))).alloc (.cells #[.int .i64 a0, .int .i64 a1] 62 (0, 0))).heap[w.heap.size + 1]? = some (.cells #[.int .i64 c0, .int .i64 c1, .float .f64 c2, .int .i64 c3, .int .i64 c4, .int .i64 c5, .int .i64 c6, .int .i64 c7, .int .i64 c8, .bool c9, .bool c10] 95 (0, 0))) := Lib.hid (blk_alloc (new_at _ _ _ (by simp)) _)
  have Ka0 : Hid ((((w.alloc (.cells #[.int .i64 q0, .int .i64 q1, .int .i64 q2] 99 (0, 0))).alloc (.cells #[.int .i64 c0, .int .i64 c1, .float .f64 c2, .int .i64 c3, .int .i64 c4, .int .i64 c5, .int .i64 c6, .int .i64 c7, .int .i64 c8, .bool c9, .bool c10] 95 (0, 0))).alloc (.cells #[.int .i64 a0, .int .i64 a1] 62 (0, 0))).heap[w.heap.size + 2]? = some (.cells #[.int .i64 a0, .int .i64 a1] 62 (0, 0))) := Lib.hid (new_at _ _ _ (by simp))
  have BB0 : Hid (Below w.heap.size w (((w.alloc (.cells #[.int .i64 q0, .int .i64 q1, .int .i64 q2] 99 (0, 0))).alloc (.cells #[.int .i64 c0, .int .i64 c1, .float .f64 c2, .int .i64 c3, .int .i64 c4, .int .i64 c5, .int .i64 c6, .int .i64 c7, .int .i64 c8, .bool c9, .bool c10] 95 (0, 0))).alloc (.cells #[.int .i64 a0, .int .i64 a1] 62 (0, 0)))) := Lib.hid ((((Below.refl w.heap.size w).alloc (Nat.le_refl _) _).alloc (by simp) _).alloc (by simp; omega) _)
  revert Ks0 Kc0 Ka0 BB0
  generalize (((w.alloc (.cells #[.int .i64 q0, .int .i64 q1, .int .i64 q2] 99 (0, 0))).alloc (.cells #[.int .i64 c0, .int .i64 c1, .float .f64 c2, .int .i64 c3, .int .i64 c4, .int .i64 c5, .int .i64 c6, .int .i64 c7, .int .i64 c8, .bool c9, .bool c10] 95 (0, 0))).alloc (.cells #[.int .i64 a0, .int .i64 a1] 62 (0, 0))) = w0
  intro Ks0 Kc0 Ka0 BB0
  refine start_ (n := 18) (S := fun w' => w'.heap[w.heap.size]? = some (.cells #[.int .i64 q0, .int .i64 q1, .int .i64 q2] 99 (0, 0)) ∧ w'.heap[w.heap.size + 1]? = some (.cells #[.int .i64 c0, .int .i64 c1, .float .f64 c2, .int .i64 c3, .int .i64 c4, .int .i64 c5, .int .i64 c6, .int .i64 c7, .int .i64 c8, .bool c9, .bool c10] 95 (0, 0)) ∧ w'.heap[w.heap.size + 2]? = some (.cells #[.int .i64 a0, .int .i64 a1] 62 (0, 0))) (ds := [16, 17]) #[false, false, false, false, false, false, false, false, false, false, false, false, false, false, false, false, false, false] (by kernel_rfl) rfl rfl ⟨Ks0.out, Kc0.out, Ka0.out⟩ (fun hHeld => ?_)
  refine with_tabW rgnIdleTells.tab1 rgnIdleTells.bits1 (fun HT_ HW_ => ?_)
  have nb_ := Lib.hid (below_drew1 BB0.out); clear BB0; have BB0 := nb_; clear nb_
  have n0_ := Lib.hid (blk_drew Ks0.out); have n1_ := Lib.hid (blk_drew Kc0.out); have n2_ := Lib.hid (blk_drew Ka0.out); clear Ks0 Kc0 Ka0; have Ks0 := n0_; have Kc0 := n1_; have Ka0 := n2_; clear n0_ n1_ n2_
  revert Ks0 Kc0 Ka0 BB0 hHeld
  generalize w0.drew = wd
  intro hHeld BB0 Ks0 Kc0 Ka0
  refine pure_ (i := 2) (N := some 11) (v := ?_) (a' := ?_) #[false, false, true, false, false, false, false, false, false, false, false, false, false, false, false, false, false, false] rfl rfl (any_of HT_.out (by kernel_rfl)) (fun _ _ _ h => h) (Or.inl ⟨by rfl, ?_⟩) ?_ ?_
  rotate_left
  · intro w'
    go_simp
    with_reducible rfl
  rotate_left
  · simp only [Act.put, List.setIfInBounds_toArray, List.set_cons_zero, List.set_cons_succ, i64_w, i32_w]
    rfl
  refine pure_ (i := 4) (N := some 13) (v := ?_) (a' := ?_) #[false, false, true, false, true, false, false, false, false, false, false, false, false, false, false, false, false, false] rfl rfl (any_of HT_.out (by kernel_rfl)) (fun _ _ _ h => h) (Or.inl ⟨by rfl, ?_⟩) ?_ ?_
  rotate_left
  · intro w'
    go_simp
    with_reducible rfl
  rotate_left
  · simp only [Act.put, List.setIfInBounds_toArray, List.set_cons_zero, List.set_cons_succ, i64_w, i32_w]
    rfl
  refine pure_ (i := 9) (N := some 18) (v := ?_) (a' := ?_) #[false, false, true, false, true, false, false, false, false, true, false, false, false, false, false, false, false, false] rfl rfl (any_of HT_.out (by kernel_rfl)) (fun _ _ _ h => h) (Or.inl ⟨by rfl, ?_⟩) ?_ ?_
  rotate_left
  · intro w'
    go_simp
    with_reducible rfl
  rotate_left
  · simp only [Act.put, List.setIfInBounds_toArray, List.set_cons_zero, List.set_cons_succ, i64_w, i32_w]
    rfl
  refine pure_ (i := 11) (N := some 20) (v := ?_) (a' := ?_) #[false, false, true, false, true, false, false, false, false, true, false, true, false, false, false, false, false, false] rfl rfl (any_of HT_.out (by kernel_rfl)) (fun _ _ _ h => h) (Or.inl ⟨by rfl, ?_⟩) ?_ ?_
  rotate_left
  · intro w'
    go_simp
    with_reducible rfl
  rotate_left
  · simp only [Act.put, List.setIfInBounds_toArray, List.set_cons_zero, List.set_cons_succ, i64_w, i32_w]
    rfl
  refine take_ (i := 0) (N := some 9) (v := ?_) (a' := ?_) #[true, false, true, false, true, false, false, false, false, true, false, true, false, false, false, false, false, false] rfl rfl (take_ofW HT_.out HW_.out (by kernel_rfl)) (fun _ _ _ h => h) (Or.inl ⟨by rfl, ?_⟩) hHeld ?_ ?_
  rotate_left
  · rintro w' ⟨s0, s1, s2⟩
    exact (ldrow (P := Try.prog) 99 _ _ Try.underlying99 rfl (by exact info_s) _ _ (.tmp 3) _ rfl (by rfl) w' s0).trans (by with_reducible rfl)
  rotate_left
  · simp only [Act.put, List.setIfInBounds_toArray, List.set_cons_zero, List.set_cons_succ, i64_w, i32_w]
    rfl
  refine take_ (i := 1) (N := some 10) (v := ?_) (a' := ?_) #[true, true, true, false, true, false, false, false, false, true, false, true, false, false, false, false, false, false] rfl rfl (take_ofW HT_.out HW_.out (by kernel_rfl)) (fun _ _ _ h => h) (Or.inl ⟨by rfl, ?_⟩) hHeld ?_ ?_
  rotate_left
  · rintro w' ⟨s0, s1, s2⟩
    exact (ldrow (P := Try.prog) 95 _ _ Try.underlying95 rfl (by exact info_c) _ _ (.tmp 4) _ rfl (by rfl) w' s1).trans (by with_reducible rfl)
  rotate_left
  · simp only [Act.put, List.setIfInBounds_toArray, List.set_cons_zero, List.set_cons_succ, i64_w, i32_w]
    rfl
  refine take_ (i := 3) (N := some 12) (v := ?_) (a' := ?_) #[true, true, true, true, true, false, false, false, false, true, false, true, false, false, false, false, false, false] rfl rfl (take_ofW HT_.out HW_.out (by kernel_rfl)) (fun _ _ _ h => h) (Or.inl ⟨by rfl, ?_⟩) hHeld ?_ ?_
  rotate_left
  · rintro w' ⟨s0, s1, s2⟩
    have c_ : w'.cell? ⟨w.heap.size + 2, 0, none⟩ = some (.int .i64 a0) := (blk_cell s2 0).trans rfl
    go_simp
    with_reducible rfl
  rotate_left
  · simp only [Act.put, List.setIfInBounds_toArray, List.set_cons_zero, List.set_cons_succ, i64_w, i32_w]
    rfl
  refine take_ (i := 5) (N := some 14) (v := ?_) (a' := ?_) #[true, true, true, true, true, true, false, false, false, true, false, true, false, false, false, false, false, false] rfl rfl (take_ofW HT_.out HW_.out (by kernel_rfl)) (fun _ _ _ h => h) (Or.inl ⟨by rfl, ?_⟩) hHeld ?_ ?_
  rotate_left
  · rintro w' ⟨s0, s1, s2⟩
    have c_ : w'.cell? ⟨w.heap.size + 2, 1, none⟩ = some (.int .i64 a1) := (blk_cell s2 1).trans rfl
    go_simp
    with_reducible rfl
  rotate_left
  · simp only [Act.put, List.setIfInBounds_toArray, List.set_cons_zero, List.set_cons_succ, i64_w, i32_w]
    rfl
  refine take_ (i := 7) (N := some 16) (v := ?_) (a' := ?_) #[true, true, true, true, true, true, false, true, false, true, false, true, false, false, false, false, false, false] rfl rfl (take_ofW HT_.out HW_.out (by kernel_rfl)) (fun _ _ _ h => h) (Or.inl ⟨by rfl, ?_⟩) hHeld ?_ ?_
  rotate_left
  · rintro w' ⟨s0, s1, s2⟩
    exact (ldrow (P := Try.prog) 99 _ _ Try.underlying99 rfl (by exact info_s) _ _ (.tmp 3) _ rfl (by rfl) w' s0).trans (by with_reducible rfl)
  rotate_left
  · simp only [Act.put, List.setIfInBounds_toArray, List.set_cons_zero, List.set_cons_succ, i64_w, i32_w]
    rfl
  refine take_ (i := 8) (N := some 17) (v := ?_) (a' := ?_) #[true, true, true, true, true, true, false, true, true, true, false, true, false, false, false, false, false, false] rfl rfl (take_ofW HT_.out HW_.out (by kernel_rfl)) (fun _ _ _ h => h) (Or.inl ⟨by rfl, ?_⟩) hHeld ?_ ?_
  rotate_left
  · rintro w' ⟨s0, s1, s2⟩
    exact (ldrow (P := Try.prog) 95 _ _ Try.underlying95 rfl (by exact info_c) _ _ (.tmp 4) _ rfl (by rfl) w' s1).trans (by with_reducible rfl)
  rotate_left
  · simp only [Act.put, List.setIfInBounds_toArray, List.set_cons_zero, List.set_cons_succ, i64_w, i32_w]
    rfl
  refine take_ (i := 10) (N := some 19) (v := ?_) (a' := ?_) #[true, true, true, true, true, true, false, true, true, true, true, true, false, false, false, false, false, false] rfl rfl (take_ofW HT_.out HW_.out (by kernel_rfl)) (fun _ _ _ h => h) (Or.inl ⟨by rfl, ?_⟩) hHeld ?_ ?_
  rotate_left
  · rintro w' ⟨s0, s1, s2⟩
    have c_ : w'.cell? ⟨w.heap.size + 2, 0, none⟩ = some (.int .i64 a0) := (blk_cell s2 0).trans rfl
    go_simp
    with_reducible rfl
  rotate_left
  · simp only [Act.put, List.setIfInBounds_toArray, List.set_cons_zero, List.set_cons_succ, i64_w, i32_w]
    rfl
  refine take_ (i := 12) (N := some 21) (v := ?_) (a' := ?_) #[true, true, true, true, true, true, false, true, true, true, true, true, true, false, false, false, false, false] rfl rfl (take_ofW HT_.out HW_.out (by kernel_rfl)) (fun _ _ _ h => h) (Or.inl ⟨by rfl, ?_⟩) hHeld ?_ ?_
  rotate_left
  · rintro w' ⟨s0, s1, s2⟩
    have c_ : w'.cell? ⟨w.heap.size + 2, 1, none⟩ = some (.int .i64 a1) := (blk_cell s2 1).trans rfl
    go_simp
    with_reducible rfl
  rotate_left
  · simp only [Act.put, List.setIfInBounds_toArray, List.set_cons_zero, List.set_cons_succ, i64_w, i32_w]
    rfl
  refine join_ (σ := Nat × Nat) 2 #[true, true, true, true, true, true, true, true, true, true, true, true, true, true, true, true, false, false] (fun s => [(15, .agg #[.int .i64 t0, .int .i64 t1, .int .i64 t2]), (22, .agg #[.int .i64 t0, .int .i64 t1, .int .i64 t2]), (7, .pointer (some ⟨s.1, 0, none⟩)), (8, .pointer (some ⟨s.2, 0, none⟩))]) (fun s w' => w'.heap[w.heap.size]? = some (.cells #[.int .i64 q0, .int .i64 q1, .int .i64 q2] 99 (0, 0)) ∧ w'.heap[w.heap.size + 1]? = some (.cells #[.int .i64 c0, .int .i64 c1, .float .f64 c2, .int .i64 c3, .int .i64 c4, .int .i64 c5, .int .i64 c6, .int .i64 c7, .int .i64 c8, .bool c9, .bool c10] 95 (0, 0)) ∧ w'.heap[w.heap.size + 2]? = some (.cells #[.int .i64 a0, .int .i64 a1] 62 (0, 0)) ∧ w'.heap[s.1]? = some (.cells #[.int .i64 0, .int .i64 0, .int .i64 0] 99 (0, 0)) ∧ w'.heap[s.2]? = some (.cells #[.int .i64 0, .int .i64 0, .int .i64 0] 104 (0, 0)) ∧ w.heap.size < s.1 ∧ w.heap.size + 1 < s.1 ∧ w.heap.size + 2 < s.1 ∧ w.heap.size < s.2 ∧ w.heap.size + 1 < s.2 ∧ w.heap.size + 2 < s.2 ∧ w.heap.size ≤ s.1 ∧ w.heap.size ≤ s.2 ∧ s.1 ≠ s.2 ∧ s.2 ≠ s.1 ∧ Below w.heap.size w w') ?_ ?_
  rotate_left
  · intro hCont
    refine three_ (i := 6) (j := 14) (k := 15) (Ni := some 15) (Nj := some 7) (Nk := some 8) #[true, true, true, true, true, true, true, true, true, true, true, true, true, false, false, false, false, false] #[true, true, true, true, true, true, false, true, true, true, true, true, true, false, true, false, false, false] #[true, true, true, true, true, true, false, true, true, true, true, true, true, false, false, true, false, false] rfl rfl rfl rfl rfl rfl (three_of HT_.out (by kernel_rfl)) (by decide) (by decide) (by decide) (fun K hK => ?_) (fun K hK => ?_) (fun K hK => ?_)
    · skip
      refine goes_ Try.func89 (by kernel_rfl) rfl #[.agg #[.int .i64 q0, .int .i64 q1, .int .i64 q2], .agg #[.int .i64 c0, .int .i64 c1, .float .f64 c2, .int .i64 c3, .int .i64 c4, .int .i64 c5, .int .i64 c6, .int .i64 c7, .int .i64 c8, .bool c9, .bool c10], .int .i64 a0, .int .i64 a1] (by rfl) rfl rfl (by simp only [List.map_toArray, List.map_cons, List.map_nil]; rfl) ?_
      with_reducible refine (H1.out _).mono ?_
      rintro e u6 ⟨rfl, hb⟩
      have Ks1 : Hid (u6.heap[w.heap.size]? = some (.cells #[.int .i64 q0, .int .i64 q1, .int .i64 q2] 99 (0, 0))) := Lib.hid (blk_below (by exact Ks0.out) hb)
      have Kc1 : Hid (u6.heap[w.heap.size + 1]? = some (.cells #[.int .i64 c0, .int .i64 c1, .float .f64 c2, .int .i64 c3, .int .i64 c4, .int .i64 c5, .int .i64 c6, .int .i64 c7, .int .i64 c8, .bool c9, .bool c10] 95 (0, 0))) := Lib.hid (blk_below (by exact Kc0.out) hb)
      have Ka1 : Hid (u6.heap[w.heap.size + 2]? = some (.cells #[.int .i64 a0, .int .i64 a1] 62 (0, 0))) := Lib.hid (blk_below (by exact Ka0.out) hb)
      have BB1 : Hid (Below w.heap.size w u6) := Lib.hid (Below.trans (by exact BB0.out) (hb.mono (by have := BB0.out.size; simpa using this)))
      clear hb
      refine ⟨_, rfl, ?_⟩
      refine hK.out _ _ ⟨Ks1.out, Kc1.out, Ka1.out⟩ (fun hHeld => ?_)
      clear hK K
      refine norm_ (a' := ?_) ?_ ?_
      rotate_left
      · show Act.put _ (some 15) _ = _
        simp only [Act.put, List.setIfInBounds_toArray, List.set_cons_zero, List.set_cons_succ, i64_w, i32_w]
        rfl
      refine three_ (i := 13) (j := 14) (k := 15) (Ni := some 22) (Nj := some 7) (Nk := some 8) #[true, true, true, true, true, true, true, true, true, true, true, true, true, true, false, false, false, false] #[true, true, true, true, true, true, true, true, true, true, true, true, true, false, true, false, false, false] #[true, true, true, true, true, true, true, true, true, true, true, true, true, false, false, true, false, false] rfl rfl rfl rfl rfl rfl (three_of HT_.out (by kernel_rfl)) (by decide) (by decide) (by decide) (fun K hK => ?_) (fun K hK => ?_) (fun K hK => ?_)
      · skip
        refine goes_ Try.func93 (by kernel_rfl) rfl #[.agg #[.int .i64 q0, .int .i64 q1, .int .i64 q2], .agg #[.int .i64 c0, .int .i64 c1, .float .f64 c2, .int .i64 c3, .int .i64 c4, .int .i64 c5, .int .i64 c6, .int .i64 c7, .int .i64 c8, .bool c9, .bool c10], .int .i64 a0, .int .i64 a1] (by rfl) rfl rfl (by simp only [List.map_toArray, List.map_cons, List.map_nil]; rfl) ?_
        with_reducible refine (H2.out _).mono ?_
        rintro e u13 ⟨rfl, hb⟩
        have Ks2 : Hid (u13.heap[w.heap.size]? = some (.cells #[.int .i64 q0, .int .i64 q1, .int .i64 q2] 99 (0, 0))) := Lib.hid (blk_below (by exact Ks1.out) hb)
        have Kc2 : Hid (u13.heap[w.heap.size + 1]? = some (.cells #[.int .i64 c0, .int .i64 c1, .float .f64 c2, .int .i64 c3, .int .i64 c4, .int .i64 c5, .int .i64 c6, .int .i64 c7, .int .i64 c8, .bool c9, .bool c10] 95 (0, 0))) := Lib.hid (blk_below (by exact Kc1.out) hb)
        have Ka2 : Hid (u13.heap[w.heap.size + 2]? = some (.cells #[.int .i64 a0, .int .i64 a1] 62 (0, 0))) := Lib.hid (blk_below (by exact Ka1.out) hb)
        have BB2 : Hid (Below w.heap.size w u13) := Lib.hid (Below.trans (by exact BB1.out) (hb.mono (by have := BB1.out.size; simpa using this)))
        clear hb
        refine ⟨_, rfl, ?_⟩
        refine hK.out _ _ ⟨Ks2.out, Kc2.out, Ka2.out⟩ (fun hHeld => ?_)
        clear hK K
        refine norm_ (a' := ?_) ?_ ?_
        rotate_left
        · show Act.put _ (some 22) _ = _
          simp only [Act.put, List.setIfInBounds_toArray, List.set_cons_zero, List.set_cons_succ, i64_w, i32_w]
          rfl
        refine two_ (i := 14) (j := 15) (Ni := some 7) (Nj := some 8) #[true, true, true, true, true, true, true, true, true, true, true, true, true, true, true, false, false, false] #[true, true, true, true, true, true, true, true, true, true, true, true, true, true, false, true, false, false] rfl rfl rfl rfl (two_of HT_.out (by kernel_rfl)) (by decide) (by decide) (fun K hK => ?_) (fun K hK => ?_)
        · skip
          refine value_ (w1 := ?_) (v := ?_) (by rfl) rfl ?_ ?_
          rotate_left 2
          · go_simp
            constructor
            · rfl
            · rfl
          have Ks3 : Hid ((u13.alloc (.cells #[.int .i64 0, .int .i64 0, .int .i64 0] 99 (0, 0))).heap[w.heap.size]? = some (.cells #[.int .i64 q0, .int .i64 q1, .int .i64 q2] 99 (0, 0))) := Lib.hid (blk_alloc (by exact Ks2.out) _)
          have Kc3 : Hid ((u13.alloc (.cells #[.int .i64 0, .int .i64 0, .int .i64 0] 99 (0, 0))).heap[w.heap.size + 1]? = some (.cells #[.int .i64 c0, .int .i64 c1, .float .f64 c2, .int .i64 c3, .int .i64 c4, .int .i64 c5, .int .i64 c6, .int .i64 c7, .int .i64 c8, .bool c9, .bool c10] 95 (0, 0))) := Lib.hid (blk_alloc (by exact Kc2.out) _)
          have Ka3 : Hid ((u13.alloc (.cells #[.int .i64 0, .int .i64 0, .int .i64 0] 99 (0, 0))).heap[w.heap.size + 2]? = some (.cells #[.int .i64 a0, .int .i64 a1] 62 (0, 0))) := Lib.hid (blk_alloc (by exact Ka2.out) _)
          have Kp3 : Hid ((u13.alloc (.cells #[.int .i64 0, .int .i64 0, .int .i64 0] 99 (0, 0))).heap[u13.heap.size]? = some (.cells #[.int .i64 0, .int .i64 0, .int .i64 0] 99 (0, 0))) := Lib.hid (new_at _ _ _ (by simp))
          have BB3 : Hid (Below w.heap.size w (u13.alloc (.cells #[.int .i64 0, .int .i64 0, .int .i64 0] 99 (0, 0)))) := Lib.hid (Below.alloc (by exact BB2.out) BB2.out.size _)
          have Lp_s : Hid (w.heap.size < u13.heap.size) := Lib.hid (by have := blk_lt Ks2.out; simpa using this)
          have Lp_c : Hid (w.heap.size + 1 < u13.heap.size) := Lib.hid (by have := blk_lt Kc2.out; simpa using this)
          have Lp_a : Hid (w.heap.size + 2 < u13.heap.size) := Lib.hid (by have := blk_lt Ka2.out; simpa using this)
          have Lp : Hid (w.heap.size ≤ u13.heap.size) := Lib.hid (by have := BB2.out.size; simpa using this)
          refine hK.out _ _ ⟨Ks3.out, Kc3.out, Ka3.out⟩ (fun hHeld => ?_)
          clear hK K
          refine norm_ (a' := ?_) ?_ ?_
          rotate_left
          · show Act.put _ (some 7) _ = _
            simp only [Act.put, List.setIfInBounds_toArray, List.set_cons_zero, List.set_cons_succ, i64_w, i32_w]
            rfl
          refine one_ (i := 15) (N := some 8) #[true, true, true, true, true, true, true, true, true, true, true, true, true, true, true, true, false, false] rfl rfl (one_of HT_.out (by kernel_rfl)) (by decide) (fun K hK => ?_)
          refine value_ (w1 := ?_) (v := ?_) (by rfl) rfl ?_ ?_
          rotate_left 2
          · go_simp
            constructor
            · rfl
            · rfl
          have Ks4 : Hid (((u13.alloc (.cells #[.int .i64 0, .int .i64 0, .int .i64 0] 99 (0, 0))).alloc (.cells #[.int .i64 0, .int .i64 0, .int .i64 0] 104 (0, 0))).heap[w.heap.size]? = some (.cells #[.int .i64 q0, .int .i64 q1, .int .i64 q2] 99 (0, 0))) := Lib.hid (blk_alloc (by exact Ks3.out) _)
          have Kc4 : Hid (((u13.alloc (.cells #[.int .i64 0, .int .i64 0, .int .i64 0] 99 (0, 0))).alloc (.cells #[.int .i64 0, .int .i64 0, .int .i64 0] 104 (0, 0))).heap[w.heap.size + 1]? = some (.cells #[.int .i64 c0, .int .i64 c1, .float .f64 c2, .int .i64 c3, .int .i64 c4, .int .i64 c5, .int .i64 c6, .int .i64 c7, .int .i64 c8, .bool c9, .bool c10] 95 (0, 0))) := Lib.hid (blk_alloc (by exact Kc3.out) _)
          have Ka4 : Hid (((u13.alloc (.cells #[.int .i64 0, .int .i64 0, .int .i64 0] 99 (0, 0))).alloc (.cells #[.int .i64 0, .int .i64 0, .int .i64 0] 104 (0, 0))).heap[w.heap.size + 2]? = some (.cells #[.int .i64 a0, .int .i64 a1] 62 (0, 0))) := Lib.hid (blk_alloc (by exact Ka3.out) _)
          have Kp4 : Hid (((u13.alloc (.cells #[.int .i64 0, .int .i64 0, .int .i64 0] 99 (0, 0))).alloc (.cells #[.int .i64 0, .int .i64 0, .int .i64 0] 104 (0, 0))).heap[u13.heap.size]? = some (.cells #[.int .i64 0, .int .i64 0, .int .i64 0] 99 (0, 0))) := Lib.hid (blk_alloc (by exact Kp3.out) _)
          have Kr4 : Hid (((u13.alloc (.cells #[.int .i64 0, .int .i64 0, .int .i64 0] 99 (0, 0))).alloc (.cells #[.int .i64 0, .int .i64 0, .int .i64 0] 104 (0, 0))).heap[u13.heap.size + 1]? = some (.cells #[.int .i64 0, .int .i64 0, .int .i64 0] 104 (0, 0))) := Lib.hid (new_at _ _ _ (by simp))
          have BB4 : Hid (Below w.heap.size w ((u13.alloc (.cells #[.int .i64 0, .int .i64 0, .int .i64 0] 99 (0, 0))).alloc (.cells #[.int .i64 0, .int .i64 0, .int .i64 0] 104 (0, 0)))) := Lib.hid (Below.alloc (by exact BB3.out) BB3.out.size _)
          have Lr_s : Hid (w.heap.size < u13.heap.size + 1) := Lib.hid (by have := blk_lt Ks3.out; simpa using this)
          have Lr_c : Hid (w.heap.size + 1 < u13.heap.size + 1) := Lib.hid (by have := blk_lt Kc3.out; simpa using this)
          have Lr_a : Hid (w.heap.size + 2 < u13.heap.size + 1) := Lib.hid (by have := blk_lt Ka3.out; simpa using this)
          have Lr : Hid (w.heap.size ≤ u13.heap.size + 1) := Lib.hid (by have := BB3.out.size; simpa using this)
          have Nr_p : Hid (u13.heap.size + 1 ≠ u13.heap.size) := Lib.hid (by have := blk_lt Kp3.out; simp at this ⊢ <;> omega)
          have Np_r : Hid (u13.heap.size ≠ u13.heap.size + 1) := Lib.hid (Ne.symm Nr_p.out)
          refine hK.out _ _ ⟨Ks4.out, Kc4.out, Ka4.out⟩ (fun hHeld => ?_)
          clear hK K
          refine norm_ (a' := ?_) ?_ ?_
          rotate_left
          · show Act.put _ (some 8) _ = _
            simp only [Act.put, List.setIfInBounds_toArray, List.set_cons_zero, List.set_cons_succ, i64_w, i32_w]
            rfl
          exact norm_ (by simp only [putAll, Act.put, List.setIfInBounds_toArray, List.set_cons_zero, List.set_cons_succ]) (hCont (u13.heap.size, u13.heap.size + 1) _ ⟨Ks4.out, Kc4.out, Ka4.out, Kp4.out, Kr4.out, Lp_s.out, Lp_c.out, Lp_a.out, Lr_s.out, Lr_c.out, Lr_a.out, Lp.out, Lr.out, Np_r.out, Nr_p.out, BB4.out⟩)
        · skip
          refine value_ (w1 := ?_) (v := ?_) (by rfl) rfl ?_ ?_
          rotate_left 2
          · go_simp
            constructor
            · rfl
            · rfl
          have Ks3 : Hid ((u13.alloc (.cells #[.int .i64 0, .int .i64 0, .int .i64 0] 104 (0, 0))).heap[w.heap.size]? = some (.cells #[.int .i64 q0, .int .i64 q1, .int .i64 q2] 99 (0, 0))) := Lib.hid (blk_alloc (by exact Ks2.out) _)
          have Kc3 : Hid ((u13.alloc (.cells #[.int .i64 0, .int .i64 0, .int .i64 0] 104 (0, 0))).heap[w.heap.size + 1]? = some (.cells #[.int .i64 c0, .int .i64 c1, .float .f64 c2, .int .i64 c3, .int .i64 c4, .int .i64 c5, .int .i64 c6, .int .i64 c7, .int .i64 c8, .bool c9, .bool c10] 95 (0, 0))) := Lib.hid (blk_alloc (by exact Kc2.out) _)
          have Ka3 : Hid ((u13.alloc (.cells #[.int .i64 0, .int .i64 0, .int .i64 0] 104 (0, 0))).heap[w.heap.size + 2]? = some (.cells #[.int .i64 a0, .int .i64 a1] 62 (0, 0))) := Lib.hid (blk_alloc (by exact Ka2.out) _)
          have Kr3 : Hid ((u13.alloc (.cells #[.int .i64 0, .int .i64 0, .int .i64 0] 104 (0, 0))).heap[u13.heap.size]? = some (.cells #[.int .i64 0, .int .i64 0, .int .i64 0] 104 (0, 0))) := Lib.hid (new_at _ _ _ (by simp))
          have BB3 : Hid (Below w.heap.size w (u13.alloc (.cells #[.int .i64 0, .int .i64 0, .int .i64 0] 104 (0, 0)))) := Lib.hid (Below.alloc (by exact BB2.out) BB2.out.size _)
          have Lr_s : Hid (w.heap.size < u13.heap.size) := Lib.hid (by have := blk_lt Ks2.out; simpa using this)
          have Lr_c : Hid (w.heap.size + 1 < u13.heap.size) := Lib.hid (by have := blk_lt Kc2.out; simpa using this)
          have Lr_a : Hid (w.heap.size + 2 < u13.heap.size) := Lib.hid (by have := blk_lt Ka2.out; simpa using this)
          have Lr : Hid (w.heap.size ≤ u13.heap.size) := Lib.hid (by have := BB2.out.size; simpa using this)
          refine hK.out _ _ ⟨Ks3.out, Kc3.out, Ka3.out⟩ (fun hHeld => ?_)
          clear hK K
          refine norm_ (a' := ?_) ?_ ?_
          rotate_left
          · show Act.put _ (some 8) _ = _
            simp only [Act.put, List.setIfInBounds_toArray, List.set_cons_zero, List.set_cons_succ, i64_w, i32_w]
            rfl
          refine one_ (i := 14) (N := some 7) #[true, true, true, true, true, true, true, true, true, true, true, true, true, true, true, true, false, false] rfl rfl (one_of HT_.out (by kernel_rfl)) (by decide) (fun K hK => ?_)
          refine value_ (w1 := ?_) (v := ?_) (by rfl) rfl ?_ ?_
          rotate_left 2
          · go_simp
            constructor
            · rfl
            · rfl
          have Ks4 : Hid (((u13.alloc (.cells #[.int .i64 0, .int .i64 0, .int .i64 0] 104 (0, 0))).alloc (.cells #[.int .i64 0, .int .i64 0, .int .i64 0] 99 (0, 0))).heap[w.heap.size]? = some (.cells #[.int .i64 q0, .int .i64 q1, .int .i64 q2] 99 (0, 0))) := Lib.hid (blk_alloc (by exact Ks3.out) _)
          have Kc4 : Hid (((u13.alloc (.cells #[.int .i64 0, .int .i64 0, .int .i64 0] 104 (0, 0))).alloc (.cells #[.int .i64 0, .int .i64 0, .int .i64 0] 99 (0, 0))).heap[w.heap.size + 1]? = some (.cells #[.int .i64 c0, .int .i64 c1, .float .f64 c2, .int .i64 c3, .int .i64 c4, .int .i64 c5, .int .i64 c6, .int .i64 c7, .int .i64 c8, .bool c9, .bool c10] 95 (0, 0))) := Lib.hid (blk_alloc (by exact Kc3.out) _)
          have Ka4 : Hid (((u13.alloc (.cells #[.int .i64 0, .int .i64 0, .int .i64 0] 104 (0, 0))).alloc (.cells #[.int .i64 0, .int .i64 0, .int .i64 0] 99 (0, 0))).heap[w.heap.size + 2]? = some (.cells #[.int .i64 a0, .int .i64 a1] 62 (0, 0))) := Lib.hid (blk_alloc (by exact Ka3.out) _)
          have Kr4 : Hid (((u13.alloc (.cells #[.int .i64 0, .int .i64 0, .int .i64 0] 104 (0, 0))).alloc (.cells #[.int .i64 0, .int .i64 0, .int .i64 0] 99 (0, 0))).heap[u13.heap.size]? = some (.cells #[.int .i64 0, .int .i64 0, .int .i64 0] 104 (0, 0))) := Lib.hid (blk_alloc (by exact Kr3.out) _)
          have Kp4 : Hid (((u13.alloc (.cells #[.int .i64 0, .int .i64 0, .int .i64 0] 104 (0, 0))).alloc (.cells #[.int .i64 0, .int .i64 0, .int .i64 0] 99 (0, 0))).heap[u13.heap.size + 1]? = some (.cells #[.int .i64 0, .int .i64 0, .int .i64 0] 99 (0, 0))) := Lib.hid (new_at _ _ _ (by simp))
          have BB4 : Hid (Below w.heap.size w ((u13.alloc (.cells #[.int .i64 0, .int .i64 0, .int .i64 0] 104 (0, 0))).alloc (.cells #[.int .i64 0, .int .i64 0, .int .i64 0] 99 (0, 0)))) := Lib.hid (Below.alloc (by exact BB3.out) BB3.out.size _)
          have Lp_s : Hid (w.heap.size < u13.heap.size + 1) := Lib.hid (by have := blk_lt Ks3.out; simpa using this)
          have Lp_c : Hid (w.heap.size + 1 < u13.heap.size + 1) := Lib.hid (by have := blk_lt Kc3.out; simpa using this)
          have Lp_a : Hid (w.heap.size + 2 < u13.heap.size + 1) := Lib.hid (by have := blk_lt Ka3.out; simpa using this)
          have Lp : Hid (w.heap.size ≤ u13.heap.size + 1) := Lib.hid (by have := BB3.out.size; simpa using this)
          have Np_r : Hid (u13.heap.size + 1 ≠ u13.heap.size) := Lib.hid (by have := blk_lt Kr3.out; simp at this ⊢ <;> omega)
          have Nr_p : Hid (u13.heap.size ≠ u13.heap.size + 1) := Lib.hid (Ne.symm Np_r.out)
          refine hK.out _ _ ⟨Ks4.out, Kc4.out, Ka4.out⟩ (fun hHeld => ?_)
          clear hK K
          refine norm_ (a' := ?_) ?_ ?_
          rotate_left
          · show Act.put _ (some 7) _ = _
            simp only [Act.put, List.setIfInBounds_toArray, List.set_cons_zero, List.set_cons_succ, i64_w, i32_w]
            rfl
          exact norm_ (by simp only [putAll, Act.put, List.setIfInBounds_toArray, List.set_cons_zero, List.set_cons_succ]) (hCont (u13.heap.size + 1, u13.heap.size) _ ⟨Ks4.out, Kc4.out, Ka4.out, Kp4.out, Kr4.out, Lp_s.out, Lp_c.out, Lp_a.out, Lr_s.out, Lr_c.out, Lr_a.out, Lp.out, Lr.out, Np_r.out, Nr_p.out, BB4.out⟩)
      · skip
        refine value_ (w1 := ?_) (v := ?_) (by rfl) rfl ?_ ?_
        rotate_left 2
        · go_simp
          constructor
          · rfl
          · rfl
        have Ks2 : Hid ((u6.alloc (.cells #[.int .i64 0, .int .i64 0, .int .i64 0] 99 (0, 0))).heap[w.heap.size]? = some (.cells #[.int .i64 q0, .int .i64 q1, .int .i64 q2] 99 (0, 0))) := Lib.hid (blk_alloc (by exact Ks1.out) _)
        have Kc2 : Hid ((u6.alloc (.cells #[.int .i64 0, .int .i64 0, .int .i64 0] 99 (0, 0))).heap[w.heap.size + 1]? = some (.cells #[.int .i64 c0, .int .i64 c1, .float .f64 c2, .int .i64 c3, .int .i64 c4, .int .i64 c5, .int .i64 c6, .int .i64 c7, .int .i64 c8, .bool c9, .bool c10] 95 (0, 0))) := Lib.hid (blk_alloc (by exact Kc1.out) _)
        have Ka2 : Hid ((u6.alloc (.cells #[.int .i64 0, .int .i64 0, .int .i64 0] 99 (0, 0))).heap[w.heap.size + 2]? = some (.cells #[.int .i64 a0, .int .i64 a1] 62 (0, 0))) := Lib.hid (blk_alloc (by exact Ka1.out) _)
        have Kp2 : Hid ((u6.alloc (.cells #[.int .i64 0, .int .i64 0, .int .i64 0] 99 (0, 0))).heap[u6.heap.size]? = some (.cells #[.int .i64 0, .int .i64 0, .int .i64 0] 99 (0, 0))) := Lib.hid (new_at _ _ _ (by simp))
        have BB2 : Hid (Below w.heap.size w (u6.alloc (.cells #[.int .i64 0, .int .i64 0, .int .i64 0] 99 (0, 0)))) := Lib.hid (Below.alloc (by exact BB1.out) BB1.out.size _)
        have Lp_s : Hid (w.heap.size < u6.heap.size) := Lib.hid (by have := blk_lt Ks1.out; simpa using this)
        have Lp_c : Hid (w.heap.size + 1 < u6.heap.size) := Lib.hid (by have := blk_lt Kc1.out; simpa using this)
        have Lp_a : Hid (w.heap.size + 2 < u6.heap.size) := Lib.hid (by have := blk_lt Ka1.out; simpa using this)
        have Lp : Hid (w.heap.size ≤ u6.heap.size) := Lib.hid (by have := BB1.out.size; simpa using this)
        refine hK.out _ _ ⟨Ks2.out, Kc2.out, Ka2.out⟩ (fun hHeld => ?_)
        clear hK K
        refine norm_ (a' := ?_) ?_ ?_
        rotate_left
        · show Act.put _ (some 7) _ = _
          simp only [Act.put, List.setIfInBounds_toArray, List.set_cons_zero, List.set_cons_succ, i64_w, i32_w]
          rfl
        refine two_ (i := 13) (j := 15) (Ni := some 22) (Nj := some 8) #[true, true, true, true, true, true, true, true, true, true, true, true, true, true, true, false, false, false] #[true, true, true, true, true, true, true, true, true, true, true, true, true, false, true, true, false, false] rfl rfl rfl rfl (two_of HT_.out (by kernel_rfl)) (by decide) (by decide) (fun K hK => ?_) (fun K hK => ?_)
        · skip
          refine goes_ Try.func93 (by kernel_rfl) rfl #[.agg #[.int .i64 q0, .int .i64 q1, .int .i64 q2], .agg #[.int .i64 c0, .int .i64 c1, .float .f64 c2, .int .i64 c3, .int .i64 c4, .int .i64 c5, .int .i64 c6, .int .i64 c7, .int .i64 c8, .bool c9, .bool c10], .int .i64 a0, .int .i64 a1] (by rfl) rfl rfl (by simp only [List.map_toArray, List.map_cons, List.map_nil]; rfl) ?_
          with_reducible refine (H2.out _).mono ?_
          rintro e u13 ⟨rfl, hb⟩
          have Ks3 : Hid (u13.heap[w.heap.size]? = some (.cells #[.int .i64 q0, .int .i64 q1, .int .i64 q2] 99 (0, 0))) := Lib.hid (blk_below (by exact Ks2.out) hb)
          have Kc3 : Hid (u13.heap[w.heap.size + 1]? = some (.cells #[.int .i64 c0, .int .i64 c1, .float .f64 c2, .int .i64 c3, .int .i64 c4, .int .i64 c5, .int .i64 c6, .int .i64 c7, .int .i64 c8, .bool c9, .bool c10] 95 (0, 0))) := Lib.hid (blk_below (by exact Kc2.out) hb)
          have Ka3 : Hid (u13.heap[w.heap.size + 2]? = some (.cells #[.int .i64 a0, .int .i64 a1] 62 (0, 0))) := Lib.hid (blk_below (by exact Ka2.out) hb)
          have Kp3 : Hid (u13.heap[u6.heap.size]? = some (.cells #[.int .i64 0, .int .i64 0, .int .i64 0] 99 (0, 0))) := Lib.hid (blk_below (by exact Kp2.out) hb)
          have BB3 : Hid (Below w.heap.size w u13) := Lib.hid (Below.trans (by exact BB2.out) (hb.mono (by have := BB2.out.size; simpa using this)))
          clear hb
          refine ⟨_, rfl, ?_⟩
          refine hK.out _ _ ⟨Ks3.out, Kc3.out, Ka3.out⟩ (fun hHeld => ?_)
          clear hK K
          refine norm_ (a' := ?_) ?_ ?_
          rotate_left
          · show Act.put _ (some 22) _ = _
            simp only [Act.put, List.setIfInBounds_toArray, List.set_cons_zero, List.set_cons_succ, i64_w, i32_w]
            rfl
          refine one_ (i := 15) (N := some 8) #[true, true, true, true, true, true, true, true, true, true, true, true, true, true, true, true, false, false] rfl rfl (one_of HT_.out (by kernel_rfl)) (by decide) (fun K hK => ?_)
          refine value_ (w1 := ?_) (v := ?_) (by rfl) rfl ?_ ?_
          rotate_left 2
          · go_simp
            constructor
            · rfl
            · rfl
          have Ks4 : Hid ((u13.alloc (.cells #[.int .i64 0, .int .i64 0, .int .i64 0] 104 (0, 0))).heap[w.heap.size]? = some (.cells #[.int .i64 q0, .int .i64 q1, .int .i64 q2] 99 (0, 0))) := Lib.hid (blk_alloc (by exact Ks3.out) _)
          have Kc4 : Hid ((u13.alloc (.cells #[.int .i64 0, .int .i64 0, .int .i64 0] 104 (0, 0))).heap[w.heap.size + 1]? = some (.cells #[.int .i64 c0, .int .i64 c1, .float .f64 c2, .int .i64 c3, .int .i64 c4, .int .i64 c5, .int .i64 c6, .int .i64 c7, .int .i64 c8, .bool c9, .bool c10] 95 (0, 0))) := Lib.hid (blk_alloc (by exact Kc3.out) _)
          have Ka4 : Hid ((u13.alloc (.cells #[.int .i64 0, .int .i64 0, .int .i64 0] 104 (0, 0))).heap[w.heap.size + 2]? = some (.cells #[.int .i64 a0, .int .i64 a1] 62 (0, 0))) := Lib.hid (blk_alloc (by exact Ka3.out) _)
          have Kp4 : Hid ((u13.alloc (.cells #[.int .i64 0, .int .i64 0, .int .i64 0] 104 (0, 0))).heap[u6.heap.size]? = some (.cells #[.int .i64 0, .int .i64 0, .int .i64 0] 99 (0, 0))) := Lib.hid (blk_alloc (by exact Kp3.out) _)
          have Kr4 : Hid ((u13.alloc (.cells #[.int .i64 0, .int .i64 0, .int .i64 0] 104 (0, 0))).heap[u13.heap.size]? = some (.cells #[.int .i64 0, .int .i64 0, .int .i64 0] 104 (0, 0))) := Lib.hid (new_at _ _ _ (by simp))
          have BB4 : Hid (Below w.heap.size w (u13.alloc (.cells #[.int .i64 0, .int .i64 0, .int .i64 0] 104 (0, 0)))) := Lib.hid (Below.alloc (by exact BB3.out) BB3.out.size _)
          have Lr_s : Hid (w.heap.size < u13.heap.size) := Lib.hid (by have := blk_lt Ks3.out; simpa using this)
          have Lr_c : Hid (w.heap.size + 1 < u13.heap.size) := Lib.hid (by have := blk_lt Kc3.out; simpa using this)
          have Lr_a : Hid (w.heap.size + 2 < u13.heap.size) := Lib.hid (by have := blk_lt Ka3.out; simpa using this)
          have Lr : Hid (w.heap.size ≤ u13.heap.size) := Lib.hid (by have := BB3.out.size; simpa using this)
          have Nr_p : Hid (u13.heap.size ≠ u6.heap.size) := Lib.hid (by have := blk_lt Kp3.out; simp at this ⊢ <;> omega)
          have Np_r : Hid (u6.heap.size ≠ u13.heap.size) := Lib.hid (Ne.symm Nr_p.out)
          refine hK.out _ _ ⟨Ks4.out, Kc4.out, Ka4.out⟩ (fun hHeld => ?_)
          clear hK K
          refine norm_ (a' := ?_) ?_ ?_
          rotate_left
          · show Act.put _ (some 8) _ = _
            simp only [Act.put, List.setIfInBounds_toArray, List.set_cons_zero, List.set_cons_succ, i64_w, i32_w]
            rfl
          exact norm_ (by simp only [putAll, Act.put, List.setIfInBounds_toArray, List.set_cons_zero, List.set_cons_succ]) (hCont (u6.heap.size, u13.heap.size) _ ⟨Ks4.out, Kc4.out, Ka4.out, Kp4.out, Kr4.out, Lp_s.out, Lp_c.out, Lp_a.out, Lr_s.out, Lr_c.out, Lr_a.out, Lp.out, Lr.out, Np_r.out, Nr_p.out, BB4.out⟩)
        · skip
          refine value_ (w1 := ?_) (v := ?_) (by rfl) rfl ?_ ?_
          rotate_left 2
          · go_simp
            constructor
            · rfl
            · rfl
          have Ks3 : Hid (((u6.alloc (.cells #[.int .i64 0, .int .i64 0, .int .i64 0] 99 (0, 0))).alloc (.cells #[.int .i64 0, .int .i64 0, .int .i64 0] 104 (0, 0))).heap[w.heap.size]? = some (.cells #[.int .i64 q0, .int .i64 q1, .int .i64 q2] 99 (0, 0))) := Lib.hid (blk_alloc (by exact Ks2.out) _)
          have Kc3 : Hid (((u6.alloc (.cells #[.int .i64 0, .int .i64 0, .int .i64 0] 99 (0, 0))).alloc (.cells #[.int .i64 0, .int .i64 0, .int .i64 0] 104 (0, 0))).heap[w.heap.size + 1]? = some (.cells #[.int .i64 c0, .int .i64 c1, .float .f64 c2, .int .i64 c3, .int .i64 c4, .int .i64 c5, .int .i64 c6, .int .i64 c7, .int .i64 c8, .bool c9, .bool c10] 95 (0, 0))) := Lib.hid (blk_alloc (by exact Kc2.out) _)
          have Ka3 : Hid (((u6.alloc (.cells #[.int .i64 0, .int .i64 0, .int .i64 0] 99 (0, 0))).alloc (.cells #[.int .i64 0, .int .i64 0, .int .i64 0] 104 (0, 0))).heap[w.heap.size + 2]? = some (.cells #[.int .i64 a0, .int .i64 a1] 62 (0, 0))) := Lib.hid (blk_alloc (by exact Ka2.out) _)
          have Kp3 : Hid (((u6.alloc (.cells #[.int .i64 0, .int .i64 0, .int .i64 0] 99 (0, 0))).alloc (.cells #[.int .i64 0, .int .i64 0, .int .i64 0] 104 (0, 0))).heap[u6.heap.size]? = some (.cells #[.int .i64 0, .int .i64 0, .int .i64 0] 99 (0, 0))) := Lib.hid (blk_alloc (by exact Kp2.out) _)
          have Kr3 : Hid (((u6.alloc (.cells #[.int .i64 0, .int .i64 0, .int .i64 0] 99 (0, 0))).alloc (.cells #[.int .i64 0, .int .i64 0, .int .i64 0] 104 (0, 0))).heap[u6.heap.size + 1]? = some (.cells #[.int .i64 0, .int .i64 0, .int .i64 0] 104 (0, 0))) := Lib.hid (new_at _ _ _ (by simp))
          have BB3 : Hid (Below w.heap.size w ((u6.alloc (.cells #[.int .i64 0, .int .i64 0, .int .i64 0] 99 (0, 0))).alloc (.cells #[.int .i64 0, .int .i64 0, .int .i64 0] 104 (0, 0)))) := Lib.hid (Below.alloc (by exact BB2.out) BB2.out.size _)
          have Lr_s : Hid (w.heap.size < u6.heap.size + 1) := Lib.hid (by have := blk_lt Ks2.out; simpa using this)
          have Lr_c : Hid (w.heap.size + 1 < u6.heap.size + 1) := Lib.hid (by have := blk_lt Kc2.out; simpa using this)
          have Lr_a : Hid (w.heap.size + 2 < u6.heap.size + 1) := Lib.hid (by have := blk_lt Ka2.out; simpa using this)
          have Lr : Hid (w.heap.size ≤ u6.heap.size + 1) := Lib.hid (by have := BB2.out.size; simpa using this)
          have Nr_p : Hid (u6.heap.size + 1 ≠ u6.heap.size) := Lib.hid (by have := blk_lt Kp2.out; simp at this ⊢ <;> omega)
          have Np_r : Hid (u6.heap.size ≠ u6.heap.size + 1) := Lib.hid (Ne.symm Nr_p.out)
          refine hK.out _ _ ⟨Ks3.out, Kc3.out, Ka3.out⟩ (fun hHeld => ?_)
          clear hK K
          refine norm_ (a' := ?_) ?_ ?_
          rotate_left
          · show Act.put _ (some 8) _ = _
            simp only [Act.put, List.setIfInBounds_toArray, List.set_cons_zero, List.set_cons_succ, i64_w, i32_w]
            rfl
          refine one_ (i := 13) (N := some 22) #[true, true, true, true, true, true, true, true, true, true, true, true, true, true, true, true, false, false] rfl rfl (one_of HT_.out (by kernel_rfl)) (by decide) (fun K hK => ?_)
          refine goes_ Try.func93 (by kernel_rfl) rfl #[.agg #[.int .i64 q0, .int .i64 q1, .int .i64 q2], .agg #[.int .i64 c0, .int .i64 c1, .float .f64 c2, .int .i64 c3, .int .i64 c4, .int .i64 c5, .int .i64 c6, .int .i64 c7, .int .i64 c8, .bool c9, .bool c10], .int .i64 a0, .int .i64 a1] (by rfl) rfl rfl (by simp only [List.map_toArray, List.map_cons, List.map_nil]; rfl) ?_
          with_reducible refine (H2.out _).mono ?_
          rintro e u13 ⟨rfl, hb⟩
          have Ks4 : Hid (u13.heap[w.heap.size]? = some (.cells #[.int .i64 q0, .int .i64 q1, .int .i64 q2] 99 (0, 0))) := Lib.hid (blk_below (by exact Ks3.out) hb)
          have Kc4 : Hid (u13.heap[w.heap.size + 1]? = some (.cells #[.int .i64 c0, .int .i64 c1, .float .f64 c2, .int .i64 c3, .int .i64 c4, .int .i64 c5, .int .i64 c6, .int .i64 c7, .int .i64 c8, .bool c9, .bool c10] 95 (0, 0))) := Lib.hid (blk_below (by exact Kc3.out) hb)
          have Ka4 : Hid (u13.heap[w.heap.size + 2]? = some (.cells #[.int .i64 a0, .int .i64 a1] 62 (0, 0))) := Lib.hid (blk_below (by exact Ka3.out) hb)
          have Kp4 : Hid (u13.heap[u6.heap.size]? = some (.cells #[.int .i64 0, .int .i64 0, .int .i64 0] 99 (0, 0))) := Lib.hid (blk_below (by exact Kp3.out) hb)
          have Kr4 : Hid (u13.heap[u6.heap.size + 1]? = some (.cells #[.int .i64 0, .int .i64 0, .int .i64 0] 104 (0, 0))) := Lib.hid (blk_below (by exact Kr3.out) hb)
          have BB4 : Hid (Below w.heap.size w u13) := Lib.hid (Below.trans (by exact BB3.out) (hb.mono (by have := BB3.out.size; simpa using this)))
          clear hb
          refine ⟨_, rfl, ?_⟩
          refine hK.out _ _ ⟨Ks4.out, Kc4.out, Ka4.out⟩ (fun hHeld => ?_)
          clear hK K
          refine norm_ (a' := ?_) ?_ ?_
          rotate_left
          · show Act.put _ (some 22) _ = _
            simp only [Act.put, List.setIfInBounds_toArray, List.set_cons_zero, List.set_cons_succ, i64_w, i32_w]
            rfl
          exact norm_ (by simp only [putAll, Act.put, List.setIfInBounds_toArray, List.set_cons_zero, List.set_cons_succ]) (hCont (u6.heap.size, u6.heap.size + 1) _ ⟨Ks4.out, Kc4.out, Ka4.out, Kp4.out, Kr4.out, Lp_s.out, Lp_c.out, Lp_a.out, Lr_s.out, Lr_c.out, Lr_a.out, Lp.out, Lr.out, Np_r.out, Nr_p.out, BB4.out⟩)
      · skip
        refine value_ (w1 := ?_) (v := ?_) (by rfl) rfl ?_ ?_
        rotate_left 2
        · go_simp
          constructor
          · rfl
          · rfl
        have Ks2 : Hid ((u6.alloc (.cells #[.int .i64 0, .int .i64 0, .int .i64 0] 104 (0, 0))).heap[w.heap.size]? = some (.cells #[.int .i64 q0, .int .i64 q1, .int .i64 q2] 99 (0, 0))) := Lib.hid (blk_alloc (by exact Ks1.out) _)
        have Kc2 : Hid ((u6.alloc (.cells #[.int .i64 0, .int .i64 0, .int .i64 0] 104 (0, 0))).heap[w.heap.size + 1]? = some (.cells #[.int .i64 c0, .int .i64 c1, .float .f64 c2, .int .i64 c3, .int .i64 c4, .int .i64 c5, .int .i64 c6, .int .i64 c7, .int .i64 c8, .bool c9, .bool c10] 95 (0, 0))) := Lib.hid (blk_alloc (by exact Kc1.out) _)
        have Ka2 : Hid ((u6.alloc (.cells #[.int .i64 0, .int .i64 0, .int .i64 0] 104 (0, 0))).heap[w.heap.size + 2]? = some (.cells #[.int .i64 a0, .int .i64 a1] 62 (0, 0))) := Lib.hid (blk_alloc (by exact Ka1.out) _)
        have Kr2 : Hid ((u6.alloc (.cells #[.int .i64 0, .int .i64 0, .int .i64 0] 104 (0, 0))).heap[u6.heap.size]? = some (.cells #[.int .i64 0, .int .i64 0, .int .i64 0] 104 (0, 0))) := Lib.hid (new_at _ _ _ (by simp))
        have BB2 : Hid (Below w.heap.size w (u6.alloc (.cells #[.int .i64 0, .int .i64 0, .int .i64 0] 104 (0, 0)))) := Lib.hid (Below.alloc (by exact BB1.out) BB1.out.size _)
        have Lr_s : Hid (w.heap.size < u6.heap.size) := Lib.hid (by have := blk_lt Ks1.out; simpa using this)
        have Lr_c : Hid (w.heap.size + 1 < u6.heap.size) := Lib.hid (by have := blk_lt Kc1.out; simpa using this)
        have Lr_a : Hid (w.heap.size + 2 < u6.heap.size) := Lib.hid (by have := blk_lt Ka1.out; simpa using this)
        have Lr : Hid (w.heap.size ≤ u6.heap.size) := Lib.hid (by have := BB1.out.size; simpa using this)
        refine hK.out _ _ ⟨Ks2.out, Kc2.out, Ka2.out⟩ (fun hHeld => ?_)
        clear hK K
        refine norm_ (a' := ?_) ?_ ?_
        rotate_left
        · show Act.put _ (some 8) _ = _
          simp only [Act.put, List.setIfInBounds_toArray, List.set_cons_zero, List.set_cons_succ, i64_w, i32_w]
          rfl
        refine two_ (i := 13) (j := 14) (Ni := some 22) (Nj := some 7) #[true, true, true, true, true, true, true, true, true, true, true, true, true, true, false, true, false, false] #[true, true, true, true, true, true, true, true, true, true, true, true, true, false, true, true, false, false] rfl rfl rfl rfl (two_of HT_.out (by kernel_rfl)) (by decide) (by decide) (fun K hK => ?_) (fun K hK => ?_)
        · skip
          refine goes_ Try.func93 (by kernel_rfl) rfl #[.agg #[.int .i64 q0, .int .i64 q1, .int .i64 q2], .agg #[.int .i64 c0, .int .i64 c1, .float .f64 c2, .int .i64 c3, .int .i64 c4, .int .i64 c5, .int .i64 c6, .int .i64 c7, .int .i64 c8, .bool c9, .bool c10], .int .i64 a0, .int .i64 a1] (by rfl) rfl rfl (by simp only [List.map_toArray, List.map_cons, List.map_nil]; rfl) ?_
          with_reducible refine (H2.out _).mono ?_
          rintro e u13 ⟨rfl, hb⟩
          have Ks3 : Hid (u13.heap[w.heap.size]? = some (.cells #[.int .i64 q0, .int .i64 q1, .int .i64 q2] 99 (0, 0))) := Lib.hid (blk_below (by exact Ks2.out) hb)
          have Kc3 : Hid (u13.heap[w.heap.size + 1]? = some (.cells #[.int .i64 c0, .int .i64 c1, .float .f64 c2, .int .i64 c3, .int .i64 c4, .int .i64 c5, .int .i64 c6, .int .i64 c7, .int .i64 c8, .bool c9, .bool c10] 95 (0, 0))) := Lib.hid (blk_below (by exact Kc2.out) hb)
          have Ka3 : Hid (u13.heap[w.heap.size + 2]? = some (.cells #[.int .i64 a0, .int .i64 a1] 62 (0, 0))) := Lib.hid (blk_below (by exact Ka2.out) hb)
          have Kr3 : Hid (u13.heap[u6.heap.size]? = some (.cells #[.int .i64 0, .int .i64 0, .int .i64 0] 104 (0, 0))) := Lib.hid (blk_below (by exact Kr2.out) hb)
          have BB3 : Hid (Below w.heap.size w u13) := Lib.hid (Below.trans (by exact BB2.out) (hb.mono (by have := BB2.out.size; simpa using this)))
          clear hb
          refine ⟨_, rfl, ?_⟩
          refine hK.out _ _ ⟨Ks3.out, Kc3.out, Ka3.out⟩ (fun hHeld => ?_)
          clear hK K
          refine norm_ (a' := ?_) ?_ ?_
          rotate_left
          · show Act.put _ (some 22) _ = _
            simp only [Act.put, List.setIfInBounds_toArray, List.set_cons_zero, List.set_cons_succ, i64_w, i32_w]
            rfl
          refine one_ (i := 14) (N := some 7) #[true, true, true, true, true, true, true, true, true, true, true, true, true, true, true, true, false, false] rfl rfl (one_of HT_.out (by kernel_rfl)) (by decide) (fun K hK => ?_)
          refine value_ (w1 := ?_) (v := ?_) (by rfl) rfl ?_ ?_
          rotate_left 2
          · go_simp
            constructor
            · rfl
            · rfl
          have Ks4 : Hid ((u13.alloc (.cells #[.int .i64 0, .int .i64 0, .int .i64 0] 99 (0, 0))).heap[w.heap.size]? = some (.cells #[.int .i64 q0, .int .i64 q1, .int .i64 q2] 99 (0, 0))) := Lib.hid (blk_alloc (by exact Ks3.out) _)
          have Kc4 : Hid ((u13.alloc (.cells #[.int .i64 0, .int .i64 0, .int .i64 0] 99 (0, 0))).heap[w.heap.size + 1]? = some (.cells #[.int .i64 c0, .int .i64 c1, .float .f64 c2, .int .i64 c3, .int .i64 c4, .int .i64 c5, .int .i64 c6, .int .i64 c7, .int .i64 c8, .bool c9, .bool c10] 95 (0, 0))) := Lib.hid (blk_alloc (by exact Kc3.out) _)
          have Ka4 : Hid ((u13.alloc (.cells #[.int .i64 0, .int .i64 0, .int .i64 0] 99 (0, 0))).heap[w.heap.size + 2]? = some (.cells #[.int .i64 a0, .int .i64 a1] 62 (0, 0))) := Lib.hid (blk_alloc (by exact Ka3.out) _)
          have Kr4 : Hid ((u13.alloc (.cells #[.int .i64 0, .int .i64 0, .int .i64 0] 99 (0, 0))).heap[u6.heap.size]? = some (.cells #[.int .i64 0, .int .i64 0, .int .i64 0] 104 (0, 0))) := Lib.hid (blk_alloc (by exact Kr3.out) _)
          have Kp4 : Hid ((u13.alloc (.cells #[.int .i64 0, .int .i64 0, .int .i64 0] 99 (0, 0))).heap[u13.heap.size]? = some (.cells #[.int .i64 0, .int .i64 0, .int .i64 0] 99 (0, 0))) := Lib.hid (new_at _ _ _ (by simp))
          have BB4 : Hid (Below w.heap.size w (u13.alloc (.cells #[.int .i64 0, .int .i64 0, .int .i64 0] 99 (0, 0)))) := Lib.hid (Below.alloc (by exact BB3.out) BB3.out.size _)
          have Lp_s : Hid (w.heap.size < u13.heap.size) := Lib.hid (by have := blk_lt Ks3.out; simpa using this)
          have Lp_c : Hid (w.heap.size + 1 < u13.heap.size) := Lib.hid (by have := blk_lt Kc3.out; simpa using this)
          have Lp_a : Hid (w.heap.size + 2 < u13.heap.size) := Lib.hid (by have := blk_lt Ka3.out; simpa using this)
          have Lp : Hid (w.heap.size ≤ u13.heap.size) := Lib.hid (by have := BB3.out.size; simpa using this)
          have Np_r : Hid (u13.heap.size ≠ u6.heap.size) := Lib.hid (by have := blk_lt Kr3.out; simp at this ⊢ <;> omega)
          have Nr_p : Hid (u6.heap.size ≠ u13.heap.size) := Lib.hid (Ne.symm Np_r.out)
          refine hK.out _ _ ⟨Ks4.out, Kc4.out, Ka4.out⟩ (fun hHeld => ?_)
          clear hK K
          refine norm_ (a' := ?_) ?_ ?_
          rotate_left
          · show Act.put _ (some 7) _ = _
            simp only [Act.put, List.setIfInBounds_toArray, List.set_cons_zero, List.set_cons_succ, i64_w, i32_w]
            rfl
          exact norm_ (by simp only [putAll, Act.put, List.setIfInBounds_toArray, List.set_cons_zero, List.set_cons_succ]) (hCont (u13.heap.size, u6.heap.size) _ ⟨Ks4.out, Kc4.out, Ka4.out, Kp4.out, Kr4.out, Lp_s.out, Lp_c.out, Lp_a.out, Lr_s.out, Lr_c.out, Lr_a.out, Lp.out, Lr.out, Np_r.out, Nr_p.out, BB4.out⟩)
        · skip
          refine value_ (w1 := ?_) (v := ?_) (by rfl) rfl ?_ ?_
          rotate_left 2
          · go_simp
            constructor
            · rfl
            · rfl
          have Ks3 : Hid (((u6.alloc (.cells #[.int .i64 0, .int .i64 0, .int .i64 0] 104 (0, 0))).alloc (.cells #[.int .i64 0, .int .i64 0, .int .i64 0] 99 (0, 0))).heap[w.heap.size]? = some (.cells #[.int .i64 q0, .int .i64 q1, .int .i64 q2] 99 (0, 0))) := Lib.hid (blk_alloc (by exact Ks2.out) _)
          have Kc3 : Hid (((u6.alloc (.cells #[.int .i64 0, .int .i64 0, .int .i64 0] 104 (0, 0))).alloc (.cells #[.int .i64 0, .int .i64 0, .int .i64 0] 99 (0, 0))).heap[w.heap.size + 1]? = some (.cells #[.int .i64 c0, .int .i64 c1, .float .f64 c2, .int .i64 c3, .int .i64 c4, .int .i64 c5, .int .i64 c6, .int .i64 c7, .int .i64 c8, .bool c9, .bool c10] 95 (0, 0))) := Lib.hid (blk_alloc (by exact Kc2.out) _)
          have Ka3 : Hid (((u6.alloc (.cells #[.int .i64 0, .int .i64 0, .int .i64 0] 104 (0, 0))).alloc (.cells #[.int .i64 0, .int .i64 0, .int .i64 0] 99 (0, 0))).heap[w.heap.size + 2]? = some (.cells #[.int .i64 a0, .int .i64 a1] 62 (0, 0))) := Lib.hid (blk_alloc (by exact Ka2.out) _)
          have Kr3 : Hid (((u6.alloc (.cells #[.int .i64 0, .int .i64 0, .int .i64 0] 104 (0, 0))).alloc (.cells #[.int .i64 0, .int .i64 0, .int .i64 0] 99 (0, 0))).heap[u6.heap.size]? = some (.cells #[.int .i64 0, .int .i64 0, .int .i64 0] 104 (0, 0))) := Lib.hid (blk_alloc (by exact Kr2.out) _)
          have Kp3 : Hid (((u6.alloc (.cells #[.int .i64 0, .int .i64 0, .int .i64 0] 104 (0, 0))).alloc (.cells #[.int .i64 0, .int .i64 0, .int .i64 0] 99 (0, 0))).heap[u6.heap.size + 1]? = some (.cells #[.int .i64 0, .int .i64 0, .int .i64 0] 99 (0, 0))) := Lib.hid (new_at _ _ _ (by simp))
          have BB3 : Hid (Below w.heap.size w ((u6.alloc (.cells #[.int .i64 0, .int .i64 0, .int .i64 0] 104 (0, 0))).alloc (.cells #[.int .i64 0, .int .i64 0, .int .i64 0] 99 (0, 0)))) := Lib.hid (Below.alloc (by exact BB2.out) BB2.out.size _)
          have Lp_s : Hid (w.heap.size < u6.heap.size + 1) := Lib.hid (by have := blk_lt Ks2.out; simpa using this)
          have Lp_c : Hid (w.heap.size + 1 < u6.heap.size + 1) := Lib.hid (by have := blk_lt Kc2.out; simpa using this)
          have Lp_a : Hid (w.heap.size + 2 < u6.heap.size + 1) := Lib.hid (by have := blk_lt Ka2.out; simpa using this)
          have Lp : Hid (w.heap.size ≤ u6.heap.size + 1) := Lib.hid (by have := BB2.out.size; simpa using this)
          have Np_r : Hid (u6.heap.size + 1 ≠ u6.heap.size) := Lib.hid (by have := blk_lt Kr2.out; simp at this ⊢ <;> omega)
          have Nr_p : Hid (u6.heap.size ≠ u6.heap.size + 1) := Lib.hid (Ne.symm Np_r.out)
          refine hK.out _ _ ⟨Ks3.out, Kc3.out, Ka3.out⟩ (fun hHeld => ?_)
          clear hK K
          refine norm_ (a' := ?_) ?_ ?_
          rotate_left
          · show Act.put _ (some 7) _ = _
            simp only [Act.put, List.setIfInBounds_toArray, List.set_cons_zero, List.set_cons_succ, i64_w, i32_w]
            rfl
          refine one_ (i := 13) (N := some 22) #[true, true, true, true, true, true, true, true, true, true, true, true, true, true, true, true, false, false] rfl rfl (one_of HT_.out (by kernel_rfl)) (by decide) (fun K hK => ?_)
          refine goes_ Try.func93 (by kernel_rfl) rfl #[.agg #[.int .i64 q0, .int .i64 q1, .int .i64 q2], .agg #[.int .i64 c0, .int .i64 c1, .float .f64 c2, .int .i64 c3, .int .i64 c4, .int .i64 c5, .int .i64 c6, .int .i64 c7, .int .i64 c8, .bool c9, .bool c10], .int .i64 a0, .int .i64 a1] (by rfl) rfl rfl (by simp only [List.map_toArray, List.map_cons, List.map_nil]; rfl) ?_
          with_reducible refine (H2.out _).mono ?_
          rintro e u13 ⟨rfl, hb⟩
          have Ks4 : Hid (u13.heap[w.heap.size]? = some (.cells #[.int .i64 q0, .int .i64 q1, .int .i64 q2] 99 (0, 0))) := Lib.hid (blk_below (by exact Ks3.out) hb)
          have Kc4 : Hid (u13.heap[w.heap.size + 1]? = some (.cells #[.int .i64 c0, .int .i64 c1, .float .f64 c2, .int .i64 c3, .int .i64 c4, .int .i64 c5, .int .i64 c6, .int .i64 c7, .int .i64 c8, .bool c9, .bool c10] 95 (0, 0))) := Lib.hid (blk_below (by exact Kc3.out) hb)
          have Ka4 : Hid (u13.heap[w.heap.size + 2]? = some (.cells #[.int .i64 a0, .int .i64 a1] 62 (0, 0))) := Lib.hid (blk_below (by exact Ka3.out) hb)
          have Kr4 : Hid (u13.heap[u6.heap.size]? = some (.cells #[.int .i64 0, .int .i64 0, .int .i64 0] 104 (0, 0))) := Lib.hid (blk_below (by exact Kr3.out) hb)
          have Kp4 : Hid (u13.heap[u6.heap.size + 1]? = some (.cells #[.int .i64 0, .int .i64 0, .int .i64 0] 99 (0, 0))) := Lib.hid (blk_below (by exact Kp3.out) hb)
          have BB4 : Hid (Below w.heap.size w u13) := Lib.hid (Below.trans (by exact BB3.out) (hb.mono (by have := BB3.out.size; simpa using this)))
          clear hb
          refine ⟨_, rfl, ?_⟩
          refine hK.out _ _ ⟨Ks4.out, Kc4.out, Ka4.out⟩ (fun hHeld => ?_)
          clear hK K
          refine norm_ (a' := ?_) ?_ ?_
          rotate_left
          · show Act.put _ (some 22) _ = _
            simp only [Act.put, List.setIfInBounds_toArray, List.set_cons_zero, List.set_cons_succ, i64_w, i32_w]
            rfl
          exact norm_ (by simp only [putAll, Act.put, List.setIfInBounds_toArray, List.set_cons_zero, List.set_cons_succ]) (hCont (u6.heap.size + 1, u6.heap.size) _ ⟨Ks4.out, Kc4.out, Ka4.out, Kp4.out, Kr4.out, Lp_s.out, Lp_c.out, Lp_a.out, Lr_s.out, Lr_c.out, Lr_a.out, Lp.out, Lr.out, Np_r.out, Nr_p.out, BB4.out⟩)
    · skip
      refine value_ (w1 := ?_) (v := ?_) (by rfl) rfl ?_ ?_
      rotate_left 2
      · go_simp
        constructor
        · rfl
        · rfl
      have Ks1 : Hid ((wd.alloc (.cells #[.int .i64 0, .int .i64 0, .int .i64 0] 99 (0, 0))).heap[w.heap.size]? = some (.cells #[.int .i64 q0, .int .i64 q1, .int .i64 q2] 99 (0, 0))) := Lib.hid (blk_alloc (by exact Ks0.out) _)
      have Kc1 : Hid ((wd.alloc (.cells #[.int .i64 0, .int .i64 0, .int .i64 0] 99 (0, 0))).heap[w.heap.size + 1]? = some (.cells #[.int .i64 c0, .int .i64 c1, .float .f64 c2, .int .i64 c3, .int .i64 c4, .int .i64 c5, .int .i64 c6, .int .i64 c7, .int .i64 c8, .bool c9, .bool c10] 95 (0, 0))) := Lib.hid (blk_alloc (by exact Kc0.out) _)
      have Ka1 : Hid ((wd.alloc (.cells #[.int .i64 0, .int .i64 0, .int .i64 0] 99 (0, 0))).heap[w.heap.size + 2]? = some (.cells #[.int .i64 a0, .int .i64 a1] 62 (0, 0))) := Lib.hid (blk_alloc (by exact Ka0.out) _)
      have Kp1 : Hid ((wd.alloc (.cells #[.int .i64 0, .int .i64 0, .int .i64 0] 99 (0, 0))).heap[wd.heap.size]? = some (.cells #[.int .i64 0, .int .i64 0, .int .i64 0] 99 (0, 0))) := Lib.hid (new_at _ _ _ (by simp))
      have BB1 : Hid (Below w.heap.size w (wd.alloc (.cells #[.int .i64 0, .int .i64 0, .int .i64 0] 99 (0, 0)))) := Lib.hid (Below.alloc (by exact BB0.out) BB0.out.size _)
      have Lp_s : Hid (w.heap.size < wd.heap.size) := Lib.hid (by have := blk_lt Ks0.out; simpa using this)
      have Lp_c : Hid (w.heap.size + 1 < wd.heap.size) := Lib.hid (by have := blk_lt Kc0.out; simpa using this)
      have Lp_a : Hid (w.heap.size + 2 < wd.heap.size) := Lib.hid (by have := blk_lt Ka0.out; simpa using this)
      have Lp : Hid (w.heap.size ≤ wd.heap.size) := Lib.hid (by have := BB0.out.size; simpa using this)
      refine hK.out _ _ ⟨Ks1.out, Kc1.out, Ka1.out⟩ (fun hHeld => ?_)
      clear hK K
      refine norm_ (a' := ?_) ?_ ?_
      rotate_left
      · show Act.put _ (some 7) _ = _
        simp only [Act.put, List.setIfInBounds_toArray, List.set_cons_zero, List.set_cons_succ, i64_w, i32_w]
        rfl
      refine two_ (i := 6) (j := 15) (Ni := some 15) (Nj := some 8) #[true, true, true, true, true, true, true, true, true, true, true, true, true, false, true, false, false, false] #[true, true, true, true, true, true, false, true, true, true, true, true, true, false, true, true, false, false] rfl rfl rfl rfl (two_of HT_.out (by kernel_rfl)) (by decide) (by decide) (fun K hK => ?_) (fun K hK => ?_)
      · skip
        refine goes_ Try.func89 (by kernel_rfl) rfl #[.agg #[.int .i64 q0, .int .i64 q1, .int .i64 q2], .agg #[.int .i64 c0, .int .i64 c1, .float .f64 c2, .int .i64 c3, .int .i64 c4, .int .i64 c5, .int .i64 c6, .int .i64 c7, .int .i64 c8, .bool c9, .bool c10], .int .i64 a0, .int .i64 a1] (by rfl) rfl rfl (by simp only [List.map_toArray, List.map_cons, List.map_nil]; rfl) ?_
        with_reducible refine (H1.out _).mono ?_
        rintro e u6 ⟨rfl, hb⟩
        have Ks2 : Hid (u6.heap[w.heap.size]? = some (.cells #[.int .i64 q0, .int .i64 q1, .int .i64 q2] 99 (0, 0))) := Lib.hid (blk_below (by exact Ks1.out) hb)
        have Kc2 : Hid (u6.heap[w.heap.size + 1]? = some (.cells #[.int .i64 c0, .int .i64 c1, .float .f64 c2, .int .i64 c3, .int .i64 c4, .int .i64 c5, .int .i64 c6, .int .i64 c7, .int .i64 c8, .bool c9, .bool c10] 95 (0, 0))) := Lib.hid (blk_below (by exact Kc1.out) hb)
        have Ka2 : Hid (u6.heap[w.heap.size + 2]? = some (.cells #[.int .i64 a0, .int .i64 a1] 62 (0, 0))) := Lib.hid (blk_below (by exact Ka1.out) hb)
        have Kp2 : Hid (u6.heap[wd.heap.size]? = some (.cells #[.int .i64 0, .int .i64 0, .int .i64 0] 99 (0, 0))) := Lib.hid (blk_below (by exact Kp1.out) hb)
        have BB2 : Hid (Below w.heap.size w u6) := Lib.hid (Below.trans (by exact BB1.out) (hb.mono (by have := BB1.out.size; simpa using this)))
        clear hb
        refine ⟨_, rfl, ?_⟩
        refine hK.out _ _ ⟨Ks2.out, Kc2.out, Ka2.out⟩ (fun hHeld => ?_)
        clear hK K
        refine norm_ (a' := ?_) ?_ ?_
        rotate_left
        · show Act.put _ (some 15) _ = _
          simp only [Act.put, List.setIfInBounds_toArray, List.set_cons_zero, List.set_cons_succ, i64_w, i32_w]
          rfl
        refine two_ (i := 13) (j := 15) (Ni := some 22) (Nj := some 8) #[true, true, true, true, true, true, true, true, true, true, true, true, true, true, true, false, false, false] #[true, true, true, true, true, true, true, true, true, true, true, true, true, false, true, true, false, false] rfl rfl rfl rfl (two_of HT_.out (by kernel_rfl)) (by decide) (by decide) (fun K hK => ?_) (fun K hK => ?_)
        · skip
          refine goes_ Try.func93 (by kernel_rfl) rfl #[.agg #[.int .i64 q0, .int .i64 q1, .int .i64 q2], .agg #[.int .i64 c0, .int .i64 c1, .float .f64 c2, .int .i64 c3, .int .i64 c4, .int .i64 c5, .int .i64 c6, .int .i64 c7, .int .i64 c8, .bool c9, .bool c10], .int .i64 a0, .int .i64 a1] (by rfl) rfl rfl (by simp only [List.map_toArray, List.map_cons, List.map_nil]; rfl) ?_
          with_reducible refine (H2.out _).mono ?_
          rintro e u13 ⟨rfl, hb⟩
          have Ks3 : Hid (u13.heap[w.heap.size]? = some (.cells #[.int .i64 q0, .int .i64 q1, .int .i64 q2] 99 (0, 0))) := Lib.hid (blk_below (by exact Ks2.out) hb)
          have Kc3 : Hid (u13.heap[w.heap.size + 1]? = some (.cells #[.int .i64 c0, .int .i64 c1, .float .f64 c2, .int .i64 c3, .int .i64 c4, .int .i64 c5, .int .i64 c6, .int .i64 c7, .int .i64 c8, .bool c9, .bool c10] 95 (0, 0))) := Lib.hid (blk_below (by exact Kc2.out) hb)
          have Ka3 : Hid (u13.heap[w.heap.size + 2]? = some (.cells #[.int .i64 a0, .int .i64 a1] 62 (0, 0))) := Lib.hid (blk_below (by exact Ka2.out) hb)
          have Kp3 : Hid (u13.heap[wd.heap.size]? = some (.cells #[.int .i64 0, .int .i64 0, .int .i64 0] 99 (0, 0))) := Lib.hid (blk_below (by exact Kp2.out) hb)
          have BB3 : Hid (Below w.heap.size w u13) := Lib.hid (Below.trans (by exact BB2.out) (hb.mono (by have := BB2.out.size; simpa using this)))
          clear hb
          refine ⟨_, rfl, ?_⟩
          refine hK.out _ _ ⟨Ks3.out, Kc3.out, Ka3.out⟩ (fun hHeld => ?_)
          clear hK K
          refine norm_ (a' := ?_) ?_ ?_
          rotate_left
          · show Act.put _ (some 22) _ = _
            simp only [Act.put, List.setIfInBounds_toArray, List.set_cons_zero, List.set_cons_succ, i64_w, i32_w]
            rfl
          refine one_ (i := 15) (N := some 8) #[true, true, true, true, true, true, true, true, true, true, true, true, true, true, true, true, false, false] rfl rfl (one_of HT_.out (by kernel_rfl)) (by decide) (fun K hK => ?_)
          refine value_ (w1 := ?_) (v := ?_) (by rfl) rfl ?_ ?_
          rotate_left 2
          · go_simp
            constructor
            · rfl
            · rfl
          have Ks4 : Hid ((u13.alloc (.cells #[.int .i64 0, .int .i64 0, .int .i64 0] 104 (0, 0))).heap[w.heap.size]? = some (.cells #[.int .i64 q0, .int .i64 q1, .int .i64 q2] 99 (0, 0))) := Lib.hid (blk_alloc (by exact Ks3.out) _)
          have Kc4 : Hid ((u13.alloc (.cells #[.int .i64 0, .int .i64 0, .int .i64 0] 104 (0, 0))).heap[w.heap.size + 1]? = some (.cells #[.int .i64 c0, .int .i64 c1, .float .f64 c2, .int .i64 c3, .int .i64 c4, .int .i64 c5, .int .i64 c6, .int .i64 c7, .int .i64 c8, .bool c9, .bool c10] 95 (0, 0))) := Lib.hid (blk_alloc (by exact Kc3.out) _)
          have Ka4 : Hid ((u13.alloc (.cells #[.int .i64 0, .int .i64 0, .int .i64 0] 104 (0, 0))).heap[w.heap.size + 2]? = some (.cells #[.int .i64 a0, .int .i64 a1] 62 (0, 0))) := Lib.hid (blk_alloc (by exact Ka3.out) _)
          have Kp4 : Hid ((u13.alloc (.cells #[.int .i64 0, .int .i64 0, .int .i64 0] 104 (0, 0))).heap[wd.heap.size]? = some (.cells #[.int .i64 0, .int .i64 0, .int .i64 0] 99 (0, 0))) := Lib.hid (blk_alloc (by exact Kp3.out) _)
          have Kr4 : Hid ((u13.alloc (.cells #[.int .i64 0, .int .i64 0, .int .i64 0] 104 (0, 0))).heap[u13.heap.size]? = some (.cells #[.int .i64 0, .int .i64 0, .int .i64 0] 104 (0, 0))) := Lib.hid (new_at _ _ _ (by simp))
          have BB4 : Hid (Below w.heap.size w (u13.alloc (.cells #[.int .i64 0, .int .i64 0, .int .i64 0] 104 (0, 0)))) := Lib.hid (Below.alloc (by exact BB3.out) BB3.out.size _)
          have Lr_s : Hid (w.heap.size < u13.heap.size) := Lib.hid (by have := blk_lt Ks3.out; simpa using this)
          have Lr_c : Hid (w.heap.size + 1 < u13.heap.size) := Lib.hid (by have := blk_lt Kc3.out; simpa using this)
          have Lr_a : Hid (w.heap.size + 2 < u13.heap.size) := Lib.hid (by have := blk_lt Ka3.out; simpa using this)
          have Lr : Hid (w.heap.size ≤ u13.heap.size) := Lib.hid (by have := BB3.out.size; simpa using this)
          have Nr_p : Hid (u13.heap.size ≠ wd.heap.size) := Lib.hid (by have := blk_lt Kp3.out; simp at this ⊢ <;> omega)
          have Np_r : Hid (wd.heap.size ≠ u13.heap.size) := Lib.hid (Ne.symm Nr_p.out)
          refine hK.out _ _ ⟨Ks4.out, Kc4.out, Ka4.out⟩ (fun hHeld => ?_)
          clear hK K
          refine norm_ (a' := ?_) ?_ ?_
          rotate_left
          · show Act.put _ (some 8) _ = _
            simp only [Act.put, List.setIfInBounds_toArray, List.set_cons_zero, List.set_cons_succ, i64_w, i32_w]
            rfl
          exact norm_ (by simp only [putAll, Act.put, List.setIfInBounds_toArray, List.set_cons_zero, List.set_cons_succ]) (hCont (wd.heap.size, u13.heap.size) _ ⟨Ks4.out, Kc4.out, Ka4.out, Kp4.out, Kr4.out, Lp_s.out, Lp_c.out, Lp_a.out, Lr_s.out, Lr_c.out, Lr_a.out, Lp.out, Lr.out, Np_r.out, Nr_p.out, BB4.out⟩)
        · skip
          refine value_ (w1 := ?_) (v := ?_) (by rfl) rfl ?_ ?_
          rotate_left 2
          · go_simp
            constructor
            · rfl
            · rfl
          have Ks3 : Hid ((u6.alloc (.cells #[.int .i64 0, .int .i64 0, .int .i64 0] 104 (0, 0))).heap[w.heap.size]? = some (.cells #[.int .i64 q0, .int .i64 q1, .int .i64 q2] 99 (0, 0))) := Lib.hid (blk_alloc (by exact Ks2.out) _)
          have Kc3 : Hid ((u6.alloc (.cells #[.int .i64 0, .int .i64 0, .int .i64 0] 104 (0, 0))).heap[w.heap.size + 1]? = some (.cells #[.int .i64 c0, .int .i64 c1, .float .f64 c2, .int .i64 c3, .int .i64 c4, .int .i64 c5, .int .i64 c6, .int .i64 c7, .int .i64 c8, .bool c9, .bool c10] 95 (0, 0))) := Lib.hid (blk_alloc (by exact Kc2.out) _)
          have Ka3 : Hid ((u6.alloc (.cells #[.int .i64 0, .int .i64 0, .int .i64 0] 104 (0, 0))).heap[w.heap.size + 2]? = some (.cells #[.int .i64 a0, .int .i64 a1] 62 (0, 0))) := Lib.hid (blk_alloc (by exact Ka2.out) _)
          have Kp3 : Hid ((u6.alloc (.cells #[.int .i64 0, .int .i64 0, .int .i64 0] 104 (0, 0))).heap[wd.heap.size]? = some (.cells #[.int .i64 0, .int .i64 0, .int .i64 0] 99 (0, 0))) := Lib.hid (blk_alloc (by exact Kp2.out) _)
          have Kr3 : Hid ((u6.alloc (.cells #[.int .i64 0, .int .i64 0, .int .i64 0] 104 (0, 0))).heap[u6.heap.size]? = some (.cells #[.int .i64 0, .int .i64 0, .int .i64 0] 104 (0, 0))) := Lib.hid (new_at _ _ _ (by simp))
          have BB3 : Hid (Below w.heap.size w (u6.alloc (.cells #[.int .i64 0, .int .i64 0, .int .i64 0] 104 (0, 0)))) := Lib.hid (Below.alloc (by exact BB2.out) BB2.out.size _)
          have Lr_s : Hid (w.heap.size < u6.heap.size) := Lib.hid (by have := blk_lt Ks2.out; simpa using this)
          have Lr_c : Hid (w.heap.size + 1 < u6.heap.size) := Lib.hid (by have := blk_lt Kc2.out; simpa using this)
          have Lr_a : Hid (w.heap.size + 2 < u6.heap.size) := Lib.hid (by have := blk_lt Ka2.out; simpa using this)
          have Lr : Hid (w.heap.size ≤ u6.heap.size) := Lib.hid (by have := BB2.out.size; simpa using this)
          have Nr_p : Hid (u6.heap.size ≠ wd.heap.size) := Lib.hid (by have := blk_lt Kp2.out; simp at this ⊢ <;> omega)
          have Np_r : Hid (wd.heap.size ≠ u6.heap.size) := Lib.hid (Ne.symm Nr_p.out)
          refine hK.out _ _ ⟨Ks3.out, Kc3.out, Ka3.out⟩ (fun hHeld => ?_)
          clear hK K
          refine norm_ (a' := ?_) ?_ ?_
          rotate_left
          · show Act.put _ (some 8) _ = _
            simp only [Act.put, List.setIfInBounds_toArray, List.set_cons_zero, List.set_cons_succ, i64_w, i32_w]
            rfl
          refine one_ (i := 13) (N := some 22) #[true, true, true, true, true, true, true, true, true, true, true, true, true, true, true, true, false, false] rfl rfl (one_of HT_.out (by kernel_rfl)) (by decide) (fun K hK => ?_)
          refine goes_ Try.func93 (by kernel_rfl) rfl #[.agg #[.int .i64 q0, .int .i64 q1, .int .i64 q2], .agg #[.int .i64 c0, .int .i64 c1, .float .f64 c2, .int .i64 c3, .int .i64 c4, .int .i64 c5, .int .i64 c6, .int .i64 c7, .int .i64 c8, .bool c9, .bool c10], .int .i64 a0, .int .i64 a1] (by rfl) rfl rfl (by simp only [List.map_toArray, List.map_cons, List.map_nil]; rfl) ?_
          with_reducible refine (H2.out _).mono ?_
          rintro e u13 ⟨rfl, hb⟩
          have Ks4 : Hid (u13.heap[w.heap.size]? = some (.cells #[.int .i64 q0, .int .i64 q1, .int .i64 q2] 99 (0, 0))) := Lib.hid (blk_below (by exact Ks3.out) hb)
          have Kc4 : Hid (u13.heap[w.heap.size + 1]? = some (.cells #[.int .i64 c0, .int .i64 c1, .float .f64 c2, .int .i64 c3, .int .i64 c4, .int .i64 c5, .int .i64 c6, .int .i64 c7, .int .i64 c8, .bool c9, .bool c10] 95 (0, 0))) := Lib.hid (blk_below (by exact Kc3.out) hb)
          have Ka4 : Hid (u13.heap[w.heap.size + 2]? = some (.cells #[.int .i64 a0, .int .i64 a1] 62 (0, 0))) := Lib.hid (blk_below (by exact Ka3.out) hb)
          have Kp4 : Hid (u13.heap[wd.heap.size]? = some (.cells #[.int .i64 0, .int .i64 0, .int .i64 0] 99 (0, 0))) := Lib.hid (blk_below (by exact Kp3.out) hb)
          have Kr4 : Hid (u13.heap[u6.heap.size]? = some (.cells #[.int .i64 0, .int .i64 0, .int .i64 0] 104 (0, 0))) := Lib.hid (blk_below (by exact Kr3.out) hb)
          have BB4 : Hid (Below w.heap.size w u13) := Lib.hid (Below.trans (by exact BB3.out) (hb.mono (by have := BB3.out.size; simpa using this)))
          clear hb
          refine ⟨_, rfl, ?_⟩
          refine hK.out _ _ ⟨Ks4.out, Kc4.out, Ka4.out⟩ (fun hHeld => ?_)
          clear hK K
          refine norm_ (a' := ?_) ?_ ?_
          rotate_left
          · show Act.put _ (some 22) _ = _
            simp only [Act.put, List.setIfInBounds_toArray, List.set_cons_zero, List.set_cons_succ, i64_w, i32_w]
            rfl
          exact norm_ (by simp only [putAll, Act.put, List.setIfInBounds_toArray, List.set_cons_zero, List.set_cons_succ]) (hCont (wd.heap.size, u6.heap.size) _ ⟨Ks4.out, Kc4.out, Ka4.out, Kp4.out, Kr4.out, Lp_s.out, Lp_c.out, Lp_a.out, Lr_s.out, Lr_c.out, Lr_a.out, Lp.out, Lr.out, Np_r.out, Nr_p.out, BB4.out⟩)
      · skip
        refine value_ (w1 := ?_) (v := ?_) (by rfl) rfl ?_ ?_
        rotate_left 2
        · go_simp
          constructor
          · rfl
          · rfl
        have Ks2 : Hid (((wd.alloc (.cells #[.int .i64 0, .int .i64 0, .int .i64 0] 99 (0, 0))).alloc (.cells #[.int .i64 0, .int .i64 0, .int .i64 0] 104 (0, 0))).heap[w.heap.size]? = some (.cells #[.int .i64 q0, .int .i64 q1, .int .i64 q2] 99 (0, 0))) := Lib.hid (blk_alloc (by exact Ks1.out) _)
        have Kc2 : Hid (((wd.alloc (.cells #[.int .i64 0, .int .i64 0, .int .i64 0] 99 (0, 0))).alloc (.cells #[.int .i64 0, .int .i64 0, .int .i64 0] 104 (0, 0))).heap[w.heap.size + 1]? = some (.cells #[.int .i64 c0, .int .i64 c1, .float .f64 c2, .int .i64 c3, .int .i64 c4, .int .i64 c5, .int .i64 c6, .int .i64 c7, .int .i64 c8, .bool c9, .bool c10] 95 (0, 0))) := Lib.hid (blk_alloc (by exact Kc1.out) _)
        have Ka2 : Hid (((wd.alloc (.cells #[.int .i64 0, .int .i64 0, .int .i64 0] 99 (0, 0))).alloc (.cells #[.int .i64 0, .int .i64 0, .int .i64 0] 104 (0, 0))).heap[w.heap.size + 2]? = some (.cells #[.int .i64 a0, .int .i64 a1] 62 (0, 0))) := Lib.hid (blk_alloc (by exact Ka1.out) _)
        have Kp2 : Hid (((wd.alloc (.cells #[.int .i64 0, .int .i64 0, .int .i64 0] 99 (0, 0))).alloc (.cells #[.int .i64 0, .int .i64 0, .int .i64 0] 104 (0, 0))).heap[wd.heap.size]? = some (.cells #[.int .i64 0, .int .i64 0, .int .i64 0] 99 (0, 0))) := Lib.hid (blk_alloc (by exact Kp1.out) _)
        have Kr2 : Hid (((wd.alloc (.cells #[.int .i64 0, .int .i64 0, .int .i64 0] 99 (0, 0))).alloc (.cells #[.int .i64 0, .int .i64 0, .int .i64 0] 104 (0, 0))).heap[wd.heap.size + 1]? = some (.cells #[.int .i64 0, .int .i64 0, .int .i64 0] 104 (0, 0))) := Lib.hid (new_at _ _ _ (by simp))
        have BB2 : Hid (Below w.heap.size w ((wd.alloc (.cells #[.int .i64 0, .int .i64 0, .int .i64 0] 99 (0, 0))).alloc (.cells #[.int .i64 0, .int .i64 0, .int .i64 0] 104 (0, 0)))) := Lib.hid (Below.alloc (by exact BB1.out) BB1.out.size _)
        have Lr_s : Hid (w.heap.size < wd.heap.size + 1) := Lib.hid (by have := blk_lt Ks1.out; simpa using this)
        have Lr_c : Hid (w.heap.size + 1 < wd.heap.size + 1) := Lib.hid (by have := blk_lt Kc1.out; simpa using this)
        have Lr_a : Hid (w.heap.size + 2 < wd.heap.size + 1) := Lib.hid (by have := blk_lt Ka1.out; simpa using this)
        have Lr : Hid (w.heap.size ≤ wd.heap.size + 1) := Lib.hid (by have := BB1.out.size; simpa using this)
        have Nr_p : Hid (wd.heap.size + 1 ≠ wd.heap.size) := Lib.hid (by have := blk_lt Kp1.out; simp at this ⊢ <;> omega)
        have Np_r : Hid (wd.heap.size ≠ wd.heap.size + 1) := Lib.hid (Ne.symm Nr_p.out)
        refine hK.out _ _ ⟨Ks2.out, Kc2.out, Ka2.out⟩ (fun hHeld => ?_)
        clear hK K
        refine norm_ (a' := ?_) ?_ ?_
        rotate_left
        · show Act.put _ (some 8) _ = _
          simp only [Act.put, List.setIfInBounds_toArray, List.set_cons_zero, List.set_cons_succ, i64_w, i32_w]
          rfl
        refine one_ (i := 6) (N := some 15) #[true, true, true, true, true, true, true, true, true, true, true, true, true, false, true, true, false, false] rfl rfl (one_of HT_.out (by kernel_rfl)) (by decide) (fun K hK => ?_)
        refine goes_ Try.func89 (by kernel_rfl) rfl #[.agg #[.int .i64 q0, .int .i64 q1, .int .i64 q2], .agg #[.int .i64 c0, .int .i64 c1, .float .f64 c2, .int .i64 c3, .int .i64 c4, .int .i64 c5, .int .i64 c6, .int .i64 c7, .int .i64 c8, .bool c9, .bool c10], .int .i64 a0, .int .i64 a1] (by rfl) rfl rfl (by simp only [List.map_toArray, List.map_cons, List.map_nil]; rfl) ?_
        with_reducible refine (H1.out _).mono ?_
        rintro e u6 ⟨rfl, hb⟩
        have Ks3 : Hid (u6.heap[w.heap.size]? = some (.cells #[.int .i64 q0, .int .i64 q1, .int .i64 q2] 99 (0, 0))) := Lib.hid (blk_below (by exact Ks2.out) hb)
        have Kc3 : Hid (u6.heap[w.heap.size + 1]? = some (.cells #[.int .i64 c0, .int .i64 c1, .float .f64 c2, .int .i64 c3, .int .i64 c4, .int .i64 c5, .int .i64 c6, .int .i64 c7, .int .i64 c8, .bool c9, .bool c10] 95 (0, 0))) := Lib.hid (blk_below (by exact Kc2.out) hb)
        have Ka3 : Hid (u6.heap[w.heap.size + 2]? = some (.cells #[.int .i64 a0, .int .i64 a1] 62 (0, 0))) := Lib.hid (blk_below (by exact Ka2.out) hb)
        have Kp3 : Hid (u6.heap[wd.heap.size]? = some (.cells #[.int .i64 0, .int .i64 0, .int .i64 0] 99 (0, 0))) := Lib.hid (blk_below (by exact Kp2.out) hb)
        have Kr3 : Hid (u6.heap[wd.heap.size + 1]? = some (.cells #[.int .i64 0, .int .i64 0, .int .i64 0] 104 (0, 0))) := Lib.hid (blk_below (by exact Kr2.out) hb)
        have BB3 : Hid (Below w.heap.size w u6) := Lib.hid (Below.trans (by exact BB2.out) (hb.mono (by have := BB2.out.size; simpa using this)))
        clear hb
        refine ⟨_, rfl, ?_⟩
        refine hK.out _ _ ⟨Ks3.out, Kc3.out, Ka3.out⟩ (fun hHeld => ?_)
        clear hK K
        refine norm_ (a' := ?_) ?_ ?_
        rotate_left
        · show Act.put _ (some 15) _ = _
          simp only [Act.put, List.setIfInBounds_toArray, List.set_cons_zero, List.set_cons_succ, i64_w, i32_w]
          rfl
        refine one_ (i := 13) (N := some 22) #[true, true, true, true, true, true, true, true, true, true, true, true, true, true, true, true, false, false] rfl rfl (one_of HT_.out (by kernel_rfl)) (by decide) (fun K hK => ?_)
        refine goes_ Try.func93 (by kernel_rfl) rfl #[.agg #[.int .i64 q0, .int .i64 q1, .int .i64 q2], .agg #[.int .i64 c0, .int .i64 c1, .float .f64 c2, .int .i64 c3, .int .i64 c4, .int .i64 c5, .int .i64 c6, .int .i64 c7, .int .i64 c8, .bool c9, .bool c10], .int .i64 a0, .int .i64 a1] (by rfl) rfl rfl (by simp only [List.map_toArray, List.map_cons, List.map_nil]; rfl) ?_
        with_reducible refine (H2.out _).mono ?_
        rintro e u13 ⟨rfl, hb⟩
        have Ks4 : Hid (u13.heap[w.heap.size]? = some (.cells #[.int .i64 q0, .int .i64 q1, .int .i64 q2] 99 (0, 0))) := Lib.hid (blk_below (by exact Ks3.out) hb)
        have Kc4 : Hid (u13.heap[w.heap.size + 1]? = some (.cells #[.int .i64 c0, .int .i64 c1, .float .f64 c2, .int .i64 c3, .int .i64 c4, .int .i64 c5, .int .i64 c6, .int .i64 c7, .int .i64 c8, .bool c9, .bool c10] 95 (0, 0))) := Lib.hid (blk_below (by exact Kc3.out) hb)
        have Ka4 : Hid (u13.heap[w.heap.size + 2]? = some (.cells #[.int .i64 a0, .int .i64 a1] 62 (0, 0))) := Lib.hid (blk_below (by exact Ka3.out) hb)
        have Kp4 : Hid (u13.heap[wd.heap.size]? = some (.cells #[.int .i64 0, .int .i64 0, .int .i64 0] 99 (0, 0))) := Lib.hid (blk_below (by exact Kp3.out) hb)
        have Kr4 : Hid (u13.heap[wd.heap.size + 1]? = some (.cells #[.int .i64 0, .int .i64 0, .int .i64 0] 104 (0, 0))) := Lib.hid (blk_below (by exact Kr3.out) hb)
        have BB4 : Hid (Below w.heap.size w u13) := Lib.hid (Below.trans (by exact BB3.out) (hb.mono (by have := BB3.out.size; simpa using this)))
        clear hb
        refine ⟨_, rfl, ?_⟩
        refine hK.out _ _ ⟨Ks4.out, Kc4.out, Ka4.out⟩ (fun hHeld => ?_)
        clear hK K
        refine norm_ (a' := ?_) ?_ ?_
        rotate_left
        · show Act.put _ (some 22) _ = _
          simp only [Act.put, List.setIfInBounds_toArray, List.set_cons_zero, List.set_cons_succ, i64_w, i32_w]
          rfl
        exact norm_ (by simp only [putAll, Act.put, List.setIfInBounds_toArray, List.set_cons_zero, List.set_cons_succ]) (hCont (wd.heap.size, wd.heap.size + 1) _ ⟨Ks4.out, Kc4.out, Ka4.out, Kp4.out, Kr4.out, Lp_s.out, Lp_c.out, Lp_a.out, Lr_s.out, Lr_c.out, Lr_a.out, Lp.out, Lr.out, Np_r.out, Nr_p.out, BB4.out⟩)
    · skip
      refine value_ (w1 := ?_) (v := ?_) (by rfl) rfl ?_ ?_
      rotate_left 2
      · go_simp
        constructor
        · rfl
        · rfl
      have Ks1 : Hid ((wd.alloc (.cells #[.int .i64 0, .int .i64 0, .int .i64 0] 104 (0, 0))).heap[w.heap.size]? = some (.cells #[.int .i64 q0, .int .i64 q1, .int .i64 q2] 99 (0, 0))) := Lib.hid (blk_alloc (by exact Ks0.out) _)
      have Kc1 : Hid ((wd.alloc (.cells #[.int .i64 0, .int .i64 0, .int .i64 0] 104 (0, 0))).heap[w.heap.size + 1]? = some (.cells #[.int .i64 c0, .int .i64 c1, .float .f64 c2, .int .i64 c3, .int .i64 c4, .int .i64 c5, .int .i64 c6, .int .i64 c7, .int .i64 c8, .bool c9, .bool c10] 95 (0, 0))) := Lib.hid (blk_alloc (by exact Kc0.out) _)
      have Ka1 : Hid ((wd.alloc (.cells #[.int .i64 0, .int .i64 0, .int .i64 0] 104 (0, 0))).heap[w.heap.size + 2]? = some (.cells #[.int .i64 a0, .int .i64 a1] 62 (0, 0))) := Lib.hid (blk_alloc (by exact Ka0.out) _)
      have Kr1 : Hid ((wd.alloc (.cells #[.int .i64 0, .int .i64 0, .int .i64 0] 104 (0, 0))).heap[wd.heap.size]? = some (.cells #[.int .i64 0, .int .i64 0, .int .i64 0] 104 (0, 0))) := Lib.hid (new_at _ _ _ (by simp))
      have BB1 : Hid (Below w.heap.size w (wd.alloc (.cells #[.int .i64 0, .int .i64 0, .int .i64 0] 104 (0, 0)))) := Lib.hid (Below.alloc (by exact BB0.out) BB0.out.size _)
      have Lr_s : Hid (w.heap.size < wd.heap.size) := Lib.hid (by have := blk_lt Ks0.out; simpa using this)
      have Lr_c : Hid (w.heap.size + 1 < wd.heap.size) := Lib.hid (by have := blk_lt Kc0.out; simpa using this)
      have Lr_a : Hid (w.heap.size + 2 < wd.heap.size) := Lib.hid (by have := blk_lt Ka0.out; simpa using this)
      have Lr : Hid (w.heap.size ≤ wd.heap.size) := Lib.hid (by have := BB0.out.size; simpa using this)
      refine hK.out _ _ ⟨Ks1.out, Kc1.out, Ka1.out⟩ (fun hHeld => ?_)
      clear hK K
      refine norm_ (a' := ?_) ?_ ?_
      rotate_left
      · show Act.put _ (some 8) _ = _
        simp only [Act.put, List.setIfInBounds_toArray, List.set_cons_zero, List.set_cons_succ, i64_w, i32_w]
        rfl
      refine two_ (i := 6) (j := 14) (Ni := some 15) (Nj := some 7) #[true, true, true, true, true, true, true, true, true, true, true, true, true, false, false, true, false, false] #[true, true, true, true, true, true, false, true, true, true, true, true, true, false, true, true, false, false] rfl rfl rfl rfl (two_of HT_.out (by kernel_rfl)) (by decide) (by decide) (fun K hK => ?_) (fun K hK => ?_)
      · skip
        refine goes_ Try.func89 (by kernel_rfl) rfl #[.agg #[.int .i64 q0, .int .i64 q1, .int .i64 q2], .agg #[.int .i64 c0, .int .i64 c1, .float .f64 c2, .int .i64 c3, .int .i64 c4, .int .i64 c5, .int .i64 c6, .int .i64 c7, .int .i64 c8, .bool c9, .bool c10], .int .i64 a0, .int .i64 a1] (by rfl) rfl rfl (by simp only [List.map_toArray, List.map_cons, List.map_nil]; rfl) ?_
        with_reducible refine (H1.out _).mono ?_
        rintro e u6 ⟨rfl, hb⟩
        have Ks2 : Hid (u6.heap[w.heap.size]? = some (.cells #[.int .i64 q0, .int .i64 q1, .int .i64 q2] 99 (0, 0))) := Lib.hid (blk_below (by exact Ks1.out) hb)
        have Kc2 : Hid (u6.heap[w.heap.size + 1]? = some (.cells #[.int .i64 c0, .int .i64 c1, .float .f64 c2, .int .i64 c3, .int .i64 c4, .int .i64 c5, .int .i64 c6, .int .i64 c7, .int .i64 c8, .bool c9, .bool c10] 95 (0, 0))) := Lib.hid (blk_below (by exact Kc1.out) hb)
        have Ka2 : Hid (u6.heap[w.heap.size + 2]? = some (.cells #[.int .i64 a0, .int .i64 a1] 62 (0, 0))) := Lib.hid (blk_below (by exact Ka1.out) hb)
        have Kr2 : Hid (u6.heap[wd.heap.size]? = some (.cells #[.int .i64 0, .int .i64 0, .int .i64 0] 104 (0, 0))) := Lib.hid (blk_below (by exact Kr1.out) hb)
        have BB2 : Hid (Below w.heap.size w u6) := Lib.hid (Below.trans (by exact BB1.out) (hb.mono (by have := BB1.out.size; simpa using this)))
        clear hb
        refine ⟨_, rfl, ?_⟩
        refine hK.out _ _ ⟨Ks2.out, Kc2.out, Ka2.out⟩ (fun hHeld => ?_)
        clear hK K
        refine norm_ (a' := ?_) ?_ ?_
        rotate_left
        · show Act.put _ (some 15) _ = _
          simp only [Act.put, List.setIfInBounds_toArray, List.set_cons_zero, List.set_cons_succ, i64_w, i32_w]
          rfl
        refine two_ (i := 13) (j := 14) (Ni := some 22) (Nj := some 7) #[true, true, true, true, true, true, true, true, true, true, true, true, true, true, false, true, false, false] #[true, true, true, true, true, true, true, true, true, true, true, true, true, false, true, true, false, false] rfl rfl rfl rfl (two_of HT_.out (by kernel_rfl)) (by decide) (by decide) (fun K hK => ?_) (fun K hK => ?_)
        · skip
          refine goes_ Try.func93 (by kernel_rfl) rfl #[.agg #[.int .i64 q0, .int .i64 q1, .int .i64 q2], .agg #[.int .i64 c0, .int .i64 c1, .float .f64 c2, .int .i64 c3, .int .i64 c4, .int .i64 c5, .int .i64 c6, .int .i64 c7, .int .i64 c8, .bool c9, .bool c10], .int .i64 a0, .int .i64 a1] (by rfl) rfl rfl (by simp only [List.map_toArray, List.map_cons, List.map_nil]; rfl) ?_
          with_reducible refine (H2.out _).mono ?_
          rintro e u13 ⟨rfl, hb⟩
          have Ks3 : Hid (u13.heap[w.heap.size]? = some (.cells #[.int .i64 q0, .int .i64 q1, .int .i64 q2] 99 (0, 0))) := Lib.hid (blk_below (by exact Ks2.out) hb)
          have Kc3 : Hid (u13.heap[w.heap.size + 1]? = some (.cells #[.int .i64 c0, .int .i64 c1, .float .f64 c2, .int .i64 c3, .int .i64 c4, .int .i64 c5, .int .i64 c6, .int .i64 c7, .int .i64 c8, .bool c9, .bool c10] 95 (0, 0))) := Lib.hid (blk_below (by exact Kc2.out) hb)
          have Ka3 : Hid (u13.heap[w.heap.size + 2]? = some (.cells #[.int .i64 a0, .int .i64 a1] 62 (0, 0))) := Lib.hid (blk_below (by exact Ka2.out) hb)
          have Kr3 : Hid (u13.heap[wd.heap.size]? = some (.cells #[.int .i64 0, .int .i64 0, .int .i64 0] 104 (0, 0))) := Lib.hid (blk_below (by exact Kr2.out) hb)
          have BB3 : Hid (Below w.heap.size w u13) := Lib.hid (Below.trans (by exact BB2.out) (hb.mono (by have := BB2.out.size; simpa using this)))
          clear hb
          refine ⟨_, rfl, ?_⟩
          refine hK.out _ _ ⟨Ks3.out, Kc3.out, Ka3.out⟩ (fun hHeld => ?_)
          clear hK K
          refine norm_ (a' := ?_) ?_ ?_
          rotate_left
          · show Act.put _ (some 22) _ = _
            simp only [Act.put, List.setIfInBounds_toArray, List.set_cons_zero, List.set_cons_succ, i64_w, i32_w]
            rfl
          refine one_ (i := 14) (N := some 7) #[true, true, true, true, true, true, true, true, true, true, true, true, true, true, true, true, false, false] rfl rfl (one_of HT_.out (by kernel_rfl)) (by decide) (fun K hK => ?_)
          refine value_ (w1 := ?_) (v := ?_) (by rfl) rfl ?_ ?_
          rotate_left 2
          · go_simp
            constructor
            · rfl
            · rfl
          have Ks4 : Hid ((u13.alloc (.cells #[.int .i64 0, .int .i64 0, .int .i64 0] 99 (0, 0))).heap[w.heap.size]? = some (.cells #[.int .i64 q0, .int .i64 q1, .int .i64 q2] 99 (0, 0))) := Lib.hid (blk_alloc (by exact Ks3.out) _)
          have Kc4 : Hid ((u13.alloc (.cells #[.int .i64 0, .int .i64 0, .int .i64 0] 99 (0, 0))).heap[w.heap.size + 1]? = some (.cells #[.int .i64 c0, .int .i64 c1, .float .f64 c2, .int .i64 c3, .int .i64 c4, .int .i64 c5, .int .i64 c6, .int .i64 c7, .int .i64 c8, .bool c9, .bool c10] 95 (0, 0))) := Lib.hid (blk_alloc (by exact Kc3.out) _)
          have Ka4 : Hid ((u13.alloc (.cells #[.int .i64 0, .int .i64 0, .int .i64 0] 99 (0, 0))).heap[w.heap.size + 2]? = some (.cells #[.int .i64 a0, .int .i64 a1] 62 (0, 0))) := Lib.hid (blk_alloc (by exact Ka3.out) _)
          have Kr4 : Hid ((u13.alloc (.cells #[.int .i64 0, .int .i64 0, .int .i64 0] 99 (0, 0))).heap[wd.heap.size]? = some (.cells #[.int .i64 0, .int .i64 0, .int .i64 0] 104 (0, 0))) := Lib.hid (blk_alloc (by exact Kr3.out) _)
          have Kp4 : Hid ((u13.alloc (.cells #[.int .i64 0, .int .i64 0, .int .i64 0] 99 (0, 0))).heap[u13.heap.size]? = some (.cells #[.int .i64 0, .int .i64 0, .int .i64 0] 99 (0, 0))) := Lib.hid (new_at _ _ _ (by simp))
          have BB4 : Hid (Below w.heap.size w (u13.alloc (.cells #[.int .i64 0, .int .i64 0, .int .i64 0] 99 (0, 0)))) := Lib.hid (Below.alloc (by exact BB3.out) BB3.out.size _)
          have Lp_s : Hid (w.heap.size < u13.heap.size) := Lib.hid (by have := blk_lt Ks3.out; simpa using this)
          have Lp_c : Hid (w.heap.size + 1 < u13.heap.size) := Lib.hid (by have := blk_lt Kc3.out; simpa using this)
          have Lp_a : Hid (w.heap.size + 2 < u13.heap.size) := Lib.hid (by have := blk_lt Ka3.out; simpa using this)
          have Lp : Hid (w.heap.size ≤ u13.heap.size) := Lib.hid (by have := BB3.out.size; simpa using this)
          have Np_r : Hid (u13.heap.size ≠ wd.heap.size) := Lib.hid (by have := blk_lt Kr3.out; simp at this ⊢ <;> omega)
          have Nr_p : Hid (wd.heap.size ≠ u13.heap.size) := Lib.hid (Ne.symm Np_r.out)
          refine hK.out _ _ ⟨Ks4.out, Kc4.out, Ka4.out⟩ (fun hHeld => ?_)
          clear hK K
          refine norm_ (a' := ?_) ?_ ?_
          rotate_left
          · show Act.put _ (some 7) _ = _
            simp only [Act.put, List.setIfInBounds_toArray, List.set_cons_zero, List.set_cons_succ, i64_w, i32_w]
            rfl
          exact norm_ (by simp only [putAll, Act.put, List.setIfInBounds_toArray, List.set_cons_zero, List.set_cons_succ]) (hCont (u13.heap.size, wd.heap.size) _ ⟨Ks4.out, Kc4.out, Ka4.out, Kp4.out, Kr4.out, Lp_s.out, Lp_c.out, Lp_a.out, Lr_s.out, Lr_c.out, Lr_a.out, Lp.out, Lr.out, Np_r.out, Nr_p.out, BB4.out⟩)
        · skip
          refine value_ (w1 := ?_) (v := ?_) (by rfl) rfl ?_ ?_
          rotate_left 2
          · go_simp
            constructor
            · rfl
            · rfl
          have Ks3 : Hid ((u6.alloc (.cells #[.int .i64 0, .int .i64 0, .int .i64 0] 99 (0, 0))).heap[w.heap.size]? = some (.cells #[.int .i64 q0, .int .i64 q1, .int .i64 q2] 99 (0, 0))) := Lib.hid (blk_alloc (by exact Ks2.out) _)
          have Kc3 : Hid ((u6.alloc (.cells #[.int .i64 0, .int .i64 0, .int .i64 0] 99 (0, 0))).heap[w.heap.size + 1]? = some (.cells #[.int .i64 c0, .int .i64 c1, .float .f64 c2, .int .i64 c3, .int .i64 c4, .int .i64 c5, .int .i64 c6, .int .i64 c7, .int .i64 c8, .bool c9, .bool c10] 95 (0, 0))) := Lib.hid (blk_alloc (by exact Kc2.out) _)
          have Ka3 : Hid ((u6.alloc (.cells #[.int .i64 0, .int .i64 0, .int .i64 0] 99 (0, 0))).heap[w.heap.size + 2]? = some (.cells #[.int .i64 a0, .int .i64 a1] 62 (0, 0))) := Lib.hid (blk_alloc (by exact Ka2.out) _)
          have Kr3 : Hid ((u6.alloc (.cells #[.int .i64 0, .int .i64 0, .int .i64 0] 99 (0, 0))).heap[wd.heap.size]? = some (.cells #[.int .i64 0, .int .i64 0, .int .i64 0] 104 (0, 0))) := Lib.hid (blk_alloc (by exact Kr2.out) _)
          have Kp3 : Hid ((u6.alloc (.cells #[.int .i64 0, .int .i64 0, .int .i64 0] 99 (0, 0))).heap[u6.heap.size]? = some (.cells #[.int .i64 0, .int .i64 0, .int .i64 0] 99 (0, 0))) := Lib.hid (new_at _ _ _ (by simp))
          have BB3 : Hid (Below w.heap.size w (u6.alloc (.cells #[.int .i64 0, .int .i64 0, .int .i64 0] 99 (0, 0)))) := Lib.hid (Below.alloc (by exact BB2.out) BB2.out.size _)
          have Lp_s : Hid (w.heap.size < u6.heap.size) := Lib.hid (by have := blk_lt Ks2.out; simpa using this)
          have Lp_c : Hid (w.heap.size + 1 < u6.heap.size) := Lib.hid (by have := blk_lt Kc2.out; simpa using this)
          have Lp_a : Hid (w.heap.size + 2 < u6.heap.size) := Lib.hid (by have := blk_lt Ka2.out; simpa using this)
          have Lp : Hid (w.heap.size ≤ u6.heap.size) := Lib.hid (by have := BB2.out.size; simpa using this)
          have Np_r : Hid (u6.heap.size ≠ wd.heap.size) := Lib.hid (by have := blk_lt Kr2.out; simp at this ⊢ <;> omega)
          have Nr_p : Hid (wd.heap.size ≠ u6.heap.size) := Lib.hid (Ne.symm Np_r.out)
          refine hK.out _ _ ⟨Ks3.out, Kc3.out, Ka3.out⟩ (fun hHeld => ?_)
          clear hK K
          refine norm_ (a' := ?_) ?_ ?_
          rotate_left
          · show Act.put _ (some 7) _ = _
            simp only [Act.put, List.setIfInBounds_toArray, List.set_cons_zero, List.set_cons_succ, i64_w, i32_w]
            rfl
          refine one_ (i := 13) (N := some 22) #[true, true, true, true, true, true, true, true, true, true, true, true, true, true, true, true, false, false] rfl rfl (one_of HT_.out (by kernel_rfl)) (by decide) (fun K hK => ?_)
          refine goes_ Try.func93 (by kernel_rfl) rfl #[.agg #[.int .i64 q0, .int .i64 q1, .int .i64 q2], .agg #[.int .i64 c0, .int .i64 c1, .float .f64 c2, .int .i64 c3, .int .i64 c4, .int .i64 c5, .int .i64 c6, .int .i64 c7, .int .i64 c8, .bool c9, .bool c10], .int .i64 a0, .int .i64 a1] (by rfl) rfl rfl (by simp only [List.map_toArray, List.map_cons, List.map_nil]; rfl) ?_
          with_reducible refine (H2.out _).mono ?_
          rintro e u13 ⟨rfl, hb⟩
          have Ks4 : Hid (u13.heap[w.heap.size]? = some (.cells #[.int .i64 q0, .int .i64 q1, .int .i64 q2] 99 (0, 0))) := Lib.hid (blk_below (by exact Ks3.out) hb)
          have Kc4 : Hid (u13.heap[w.heap.size + 1]? = some (.cells #[.int .i64 c0, .int .i64 c1, .float .f64 c2, .int .i64 c3, .int .i64 c4, .int .i64 c5, .int .i64 c6, .int .i64 c7, .int .i64 c8, .bool c9, .bool c10] 95 (0, 0))) := Lib.hid (blk_below (by exact Kc3.out) hb)
          have Ka4 : Hid (u13.heap[w.heap.size + 2]? = some (.cells #[.int .i64 a0, .int .i64 a1] 62 (0, 0))) := Lib.hid (blk_below (by exact Ka3.out) hb)
          have Kr4 : Hid (u13.heap[wd.heap.size]? = some (.cells #[.int .i64 0, .int .i64 0, .int .i64 0] 104 (0, 0))) := Lib.hid (blk_below (by exact Kr3.out) hb)
          have Kp4 : Hid (u13.heap[u6.heap.size]? = some (.cells #[.int .i64 0, .int .i64 0, .int .i64 0] 99 (0, 0))) := Lib.hid (blk_below (by exact Kp3.out) hb)
          have BB4 : Hid (Below w.heap.size w u13) := Lib.hid (Below.trans (by exact BB3.out) (hb.mono (by have := BB3.out.size; simpa using this)))
          clear hb
          refine ⟨_, rfl, ?_⟩
          refine hK.out _ _ ⟨Ks4.out, Kc4.out, Ka4.out⟩ (fun hHeld => ?_)
          clear hK K
          refine norm_ (a' := ?_) ?_ ?_
          rotate_left
          · show Act.put _ (some 22) _ = _
            simp only [Act.put, List.setIfInBounds_toArray, List.set_cons_zero, List.set_cons_succ, i64_w, i32_w]
            rfl
          exact norm_ (by simp only [putAll, Act.put, List.setIfInBounds_toArray, List.set_cons_zero, List.set_cons_succ]) (hCont (u6.heap.size, wd.heap.size) _ ⟨Ks4.out, Kc4.out, Ka4.out, Kp4.out, Kr4.out, Lp_s.out, Lp_c.out, Lp_a.out, Lr_s.out, Lr_c.out, Lr_a.out, Lp.out, Lr.out, Np_r.out, Nr_p.out, BB4.out⟩)
      · skip
        refine value_ (w1 := ?_) (v := ?_) (by rfl) rfl ?_ ?_
        rotate_left 2
        · go_simp
          constructor
          · rfl
          · rfl
        have Ks2 : Hid (((wd.alloc (.cells #[.int .i64 0, .int .i64 0, .int .i64 0] 104 (0, 0))).alloc (.cells #[.int .i64 0, .int .i64 0, .int .i64 0] 99 (0, 0))).heap[w.heap.size]? = some (.cells #[.int .i64 q0, .int .i64 q1, .int .i64 q2] 99 (0, 0))) := Lib.hid (blk_alloc (by exact Ks1.out) _)
        have Kc2 : Hid (((wd.alloc (.cells #[.int .i64 0, .int .i64 0, .int .i64 0] 104 (0, 0))).alloc (.cells #[.int .i64 0, .int .i64 0, .int .i64 0] 99 (0, 0))).heap[w.heap.size + 1]? = some (.cells #[.int .i64 c0, .int .i64 c1, .float .f64 c2, .int .i64 c3, .int .i64 c4, .int .i64 c5, .int .i64 c6, .int .i64 c7, .int .i64 c8, .bool c9, .bool c10] 95 (0, 0))) := Lib.hid (blk_alloc (by exact Kc1.out) _)
        have Ka2 : Hid (((wd.alloc (.cells #[.int .i64 0, .int .i64 0, .int .i64 0] 104 (0, 0))).alloc (.cells #[.int .i64 0, .int .i64 0, .int .i64 0] 99 (0, 0))).heap[w.heap.size + 2]? = some (.cells #[.int .i64 a0, .int .i64 a1] 62 (0, 0))) := Lib.hid (blk_alloc (by exact Ka1.out) _)
        have Kr2 : Hid (((wd.alloc (.cells #[.int .i64 0, .int .i64 0, .int .i64 0] 104 (0, 0))).alloc (.cells #[.int .i64 0, .int .i64 0, .int .i64 0] 99 (0, 0))).heap[wd.heap.size]? = some (.cells #[.int .i64 0, .int .i64 0, .int .i64 0] 104 (0, 0))) := Lib.hid (blk_alloc (by exact Kr1.out) _)
        have Kp2 : Hid (((wd.alloc (.cells #[.int .i64 0, .int .i64 0, .int .i64 0] 104 (0, 0))).alloc (.cells #[.int .i64 0, .int .i64 0, .int .i64 0] 99 (0, 0))).heap[wd.heap.size + 1]? = some (.cells #[.int .i64 0, .int .i64 0, .int .i64 0] 99 (0, 0))) := Lib.hid (new_at _ _ _ (by simp))
        have BB2 : Hid (Below w.heap.size w ((wd.alloc (.cells #[.int .i64 0, .int .i64 0, .int .i64 0] 104 (0, 0))).alloc (.cells #[.int .i64 0, .int .i64 0, .int .i64 0] 99 (0, 0)))) := Lib.hid (Below.alloc (by exact BB1.out) BB1.out.size _)
        have Lp_s : Hid (w.heap.size < wd.heap.size + 1) := Lib.hid (by have := blk_lt Ks1.out; simpa using this)
        have Lp_c : Hid (w.heap.size + 1 < wd.heap.size + 1) := Lib.hid (by have := blk_lt Kc1.out; simpa using this)
        have Lp_a : Hid (w.heap.size + 2 < wd.heap.size + 1) := Lib.hid (by have := blk_lt Ka1.out; simpa using this)
        have Lp : Hid (w.heap.size ≤ wd.heap.size + 1) := Lib.hid (by have := BB1.out.size; simpa using this)
        have Np_r : Hid (wd.heap.size + 1 ≠ wd.heap.size) := Lib.hid (by have := blk_lt Kr1.out; simp at this ⊢ <;> omega)
        have Nr_p : Hid (wd.heap.size ≠ wd.heap.size + 1) := Lib.hid (Ne.symm Np_r.out)
        refine hK.out _ _ ⟨Ks2.out, Kc2.out, Ka2.out⟩ (fun hHeld => ?_)
        clear hK K
        refine norm_ (a' := ?_) ?_ ?_
        rotate_left
        · show Act.put _ (some 7) _ = _
          simp only [Act.put, List.setIfInBounds_toArray, List.set_cons_zero, List.set_cons_succ, i64_w, i32_w]
          rfl
        refine one_ (i := 6) (N := some 15) #[true, true, true, true, true, true, true, true, true, true, true, true, true, false, true, true, false, false] rfl rfl (one_of HT_.out (by kernel_rfl)) (by decide) (fun K hK => ?_)
        refine goes_ Try.func89 (by kernel_rfl) rfl #[.agg #[.int .i64 q0, .int .i64 q1, .int .i64 q2], .agg #[.int .i64 c0, .int .i64 c1, .float .f64 c2, .int .i64 c3, .int .i64 c4, .int .i64 c5, .int .i64 c6, .int .i64 c7, .int .i64 c8, .bool c9, .bool c10], .int .i64 a0, .int .i64 a1] (by rfl) rfl rfl (by simp only [List.map_toArray, List.map_cons, List.map_nil]; rfl) ?_
        with_reducible refine (H1.out _).mono ?_
        rintro e u6 ⟨rfl, hb⟩
        have Ks3 : Hid (u6.heap[w.heap.size]? = some (.cells #[.int .i64 q0, .int .i64 q1, .int .i64 q2] 99 (0, 0))) := Lib.hid (blk_below (by exact Ks2.out) hb)
        have Kc3 : Hid (u6.heap[w.heap.size + 1]? = some (.cells #[.int .i64 c0, .int .i64 c1, .float .f64 c2, .int .i64 c3, .int .i64 c4, .int .i64 c5, .int .i64 c6, .int .i64 c7, .int .i64 c8, .bool c9, .bool c10] 95 (0, 0))) := Lib.hid (blk_below (by exact Kc2.out) hb)
        have Ka3 : Hid (u6.heap[w.heap.size + 2]? = some (.cells #[.int .i64 a0, .int .i64 a1] 62 (0, 0))) := Lib.hid (blk_below (by exact Ka2.out) hb)
        have Kr3 : Hid (u6.heap[wd.heap.size]? = some (.cells #[.int .i64 0, .int .i64 0, .int .i64 0] 104 (0, 0))) := Lib.hid (blk_below (by exact Kr2.out) hb)
        have Kp3 : Hid (u6.heap[wd.heap.size + 1]? = some (.cells #[.int .i64 0, .int .i64 0, .int .i64 0] 99 (0, 0))) := Lib.hid (blk_below (by exact Kp2.out) hb)
        have BB3 : Hid (Below w.heap.size w u6) := Lib.hid (Below.trans (by exact BB2.out) (hb.mono (by have := BB2.out.size; simpa using this)))
        clear hb
        refine ⟨_, rfl, ?_⟩
        refine hK.out _ _ ⟨Ks3.out, Kc3.out, Ka3.out⟩ (fun hHeld => ?_)
        clear hK K
        refine norm_ (a' := ?_) ?_ ?_
        rotate_left
        · show Act.put _ (some 15) _ = _
          simp only [Act.put, List.setIfInBounds_toArray, List.set_cons_zero, List.set_cons_succ, i64_w, i32_w]
          rfl
        refine one_ (i := 13) (N := some 22) #[true, true, true, true, true, true, true, true, true, true, true, true, true, true, true, true, false, false] rfl rfl (one_of HT_.out (by kernel_rfl)) (by decide) (fun K hK => ?_)
        refine goes_ Try.func93 (by kernel_rfl) rfl #[.agg #[.int .i64 q0, .int .i64 q1, .int .i64 q2], .agg #[.int .i64 c0, .int .i64 c1, .float .f64 c2, .int .i64 c3, .int .i64 c4, .int .i64 c5, .int .i64 c6, .int .i64 c7, .int .i64 c8, .bool c9, .bool c10], .int .i64 a0, .int .i64 a1] (by rfl) rfl rfl (by simp only [List.map_toArray, List.map_cons, List.map_nil]; rfl) ?_
        with_reducible refine (H2.out _).mono ?_
        rintro e u13 ⟨rfl, hb⟩
        have Ks4 : Hid (u13.heap[w.heap.size]? = some (.cells #[.int .i64 q0, .int .i64 q1, .int .i64 q2] 99 (0, 0))) := Lib.hid (blk_below (by exact Ks3.out) hb)
        have Kc4 : Hid (u13.heap[w.heap.size + 1]? = some (.cells #[.int .i64 c0, .int .i64 c1, .float .f64 c2, .int .i64 c3, .int .i64 c4, .int .i64 c5, .int .i64 c6, .int .i64 c7, .int .i64 c8, .bool c9, .bool c10] 95 (0, 0))) := Lib.hid (blk_below (by exact Kc3.out) hb)
        have Ka4 : Hid (u13.heap[w.heap.size + 2]? = some (.cells #[.int .i64 a0, .int .i64 a1] 62 (0, 0))) := Lib.hid (blk_below (by exact Ka3.out) hb)
        have Kr4 : Hid (u13.heap[wd.heap.size]? = some (.cells #[.int .i64 0, .int .i64 0, .int .i64 0] 104 (0, 0))) := Lib.hid (blk_below (by exact Kr3.out) hb)
        have Kp4 : Hid (u13.heap[wd.heap.size + 1]? = some (.cells #[.int .i64 0, .int .i64 0, .int .i64 0] 99 (0, 0))) := Lib.hid (blk_below (by exact Kp3.out) hb)
        have BB4 : Hid (Below w.heap.size w u13) := Lib.hid (Below.trans (by exact BB3.out) (hb.mono (by have := BB3.out.size; simpa using this)))
        clear hb
        refine ⟨_, rfl, ?_⟩
        refine hK.out _ _ ⟨Ks4.out, Kc4.out, Ka4.out⟩ (fun hHeld => ?_)
        clear hK K
        refine norm_ (a' := ?_) ?_ ?_
        rotate_left
        · show Act.put _ (some 22) _ = _
          simp only [Act.put, List.setIfInBounds_toArray, List.set_cons_zero, List.set_cons_succ, i64_w, i32_w]
          rfl
        exact norm_ (by simp only [putAll, Act.put, List.setIfInBounds_toArray, List.set_cons_zero, List.set_cons_succ]) (hCont (wd.heap.size + 1, wd.heap.size) _ ⟨Ks4.out, Kc4.out, Ka4.out, Kp4.out, Kr4.out, Lp_s.out, Lp_c.out, Lp_a.out, Lr_s.out, Lr_c.out, Lr_a.out, Lp.out, Lr.out, Np_r.out, Nr_p.out, BB4.out⟩)
  rintro ⟨gp, gr⟩ wj ⟨s0, s1, s2, kp, kr, lp_s, lp_c, lp_a, lr_s, lr_c, lr_a, lp, lr, np_r, nr_p, bj⟩
  have Kp := Lib.hid kp; have Kr := Lib.hid kr; have Lp_s := Lib.hid lp_s; have Lp_c := Lib.hid lp_c; have Lp_a := Lib.hid lp_a; have Lr_s := Lib.hid lr_s; have Lr_c := Lib.hid lr_c; have Lr_a := Lib.hid lr_a; have Lp := Lib.hid lp; have Lr := Lib.hid lr; have Np_r := Lib.hid np_r; have Nr_p := Lib.hid nr_p; have BJ := Lib.hid bj; have Ksj := Lib.hid s0; have Kcj := Lib.hid s1; have Kaj := Lib.hid s2
  clear kp kr lp_s lp_c lp_a lr_s lr_c lr_a lp lr np_r nr_p bj
  have hHeld : wj.heap[w.heap.size]? = some (.cells #[.int .i64 q0, .int .i64 q1, .int .i64 q2] 99 (0, 0)) ∧ wj.heap[w.heap.size + 1]? = some (.cells #[.int .i64 c0, .int .i64 c1, .float .f64 c2, .int .i64 c3, .int .i64 c4, .int .i64 c5, .int .i64 c6, .int .i64 c7, .int .i64 c8, .bool c9, .bool c10] 95 (0, 0)) ∧ wj.heap[w.heap.size + 2]? = some (.cells #[.int .i64 a0, .int .i64 a1] 62 (0, 0)) := ⟨s0, s1, s2⟩
  clear s0 s1 s2
  refine norm_ (a' := ?_) ?_ ?_
  rotate_left
  · simp only [putAll, Act.put, List.setIfInBounds_toArray, List.set_cons_zero, List.set_cons_succ]
    rfl
  refine last_ (i := 16) (N := none) #[true, true, true, true, true, true, true, true, true, true, true, true, true, true, true, true, true, false] rfl rfl (one_of HT_.out (by kernel_rfl)) (by decide) (fun K hK => ?_)
  rw [if_pos (by rfl)]
  refine wp_store_row 99 (.tmp 7) (.tmp 15) rfl gp #[.int .i64 t0, .int .i64 t1, .int .i64 t2] rfl rfl 99 _ Kp.out (by exact info_p) (by rfl) (by simp [Value.oneCell']) ?_
  refine hK.out _ _ ?_
  clear hK K
  refine last_ (i := 17) (N := none) #[true, true, true, true, true, true, true, true, true, true, true, true, true, true, true, true, true, true] rfl rfl (one_of HT_.out (by kernel_rfl)) (by decide) (fun K hK => ?_)
  rw [if_pos (by rfl)]
  refine wp_store_row 104 (.tmp 8) (.tmp 22) rfl gr #[.int .i64 t0, .int .i64 t1, .int .i64 t2] rfl rfl 104 _ ((setRow_other _ gp gr #[.int .i64 t0, .int .i64 t1, .int .i64 t2] Nr_p.out).trans Kr.out) (by exact info_r) (by rfl) (by simp [Value.oneCell']) ?_
  refine hK.out _ _ ?_
  clear hK K
  refine done_ (done_of HT_.out (by kernel_rfl)) ?_
  have Ksz : Hid (((wj.setRow gp #[.int .i64 t0, .int .i64 t1, .int .i64 t2]).setRow gr #[.int .i64 t0, .int .i64 t1, .int .i64 t2]).heap[w.heap.size]? = some (.cells #[.int .i64 q0, .int .i64 q1, .int .i64 q2] 99 (0, 0))) := Lib.hid ((setRow_other _ gr _ _ (by have := Lr_s.out; omega)).trans ((setRow_other _ gp _ _ (by have := Lp_s.out; omega)).trans Ksj.out))
  have Kcz : Hid (((wj.setRow gp #[.int .i64 t0, .int .i64 t1, .int .i64 t2]).setRow gr #[.int .i64 t0, .int .i64 t1, .int .i64 t2]).heap[w.heap.size + 1]? = some (.cells #[.int .i64 c0, .int .i64 c1, .float .f64 c2, .int .i64 c3, .int .i64 c4, .int .i64 c5, .int .i64 c6, .int .i64 c7, .int .i64 c8, .bool c9, .bool c10] 95 (0, 0))) := Lib.hid ((setRow_other _ gr _ _ (by have := Lr_c.out; omega)).trans ((setRow_other _ gp _ _ (by have := Lp_c.out; omega)).trans Kcj.out))
  have Kaz : Hid (((wj.setRow gp #[.int .i64 t0, .int .i64 t1, .int .i64 t2]).setRow gr #[.int .i64 t0, .int .i64 t1, .int .i64 t2]).heap[w.heap.size + 2]? = some (.cells #[.int .i64 a0, .int .i64 a1] 62 (0, 0))) := Lib.hid ((setRow_other _ gr _ _ (by have := Lr_a.out; omega)).trans ((setRow_other _ gp _ _ (by have := Lp_a.out; omega)).trans Kaj.out))
  have Kpz : Hid (((wj.setRow gp #[.int .i64 t0, .int .i64 t1, .int .i64 t2]).setRow gr #[.int .i64 t0, .int .i64 t1, .int .i64 t2]).heap[gp]? = some (.cells #[.int .i64 t0, .int .i64 t1, .int .i64 t2] 99 (0, 0))) := Lib.hid ((setRow_other _ gr _ _ Np_r.out).trans (setRow_heap _ gp _ _ 99 _ Kp.out))
  have Krz : Hid (((wj.setRow gp #[.int .i64 t0, .int .i64 t1, .int .i64 t2]).setRow gr #[.int .i64 t0, .int .i64 t1, .int .i64 t2]).heap[gr]? = some (.cells #[.int .i64 t0, .int .i64 t1, .int .i64 t2] 104 (0, 0))) := Lib.hid (setRow_heap _ gr _ _ 104 _ ((setRow_other _ gp _ _ Nr_p.out).trans Kr.out))
  have BZ : Hid (Below w.heap.size w ((wj.setRow gp #[.int .i64 t0, .int .i64 t1, .int .i64 t2]).setRow gr #[.int .i64 t0, .int .i64 t1, .int .i64 t2])) := Lib.hid (below_setRow (below_setRow BJ.out Lp.out _) Lr.out _)
  clear BJ hHeld Ksj Kcj Kaj Kp Kr Lp_s Lp_c Lp_a Lr_s Lr_c Lr_a Lp Lr Np_r Nr_p
  revert Ksz Kcz Kaz Kpz Krz BZ
  generalize ((wj.setRow gp #[.int .i64 t0, .int .i64 t1, .int .i64 t2]).setRow gr #[.int .i64 t0, .int .i64 t1, .int .i64 t2]) = wz
  intro Ks0 Kc0 Ka0 Kp0 Kr0 BB0
  simp only [Act.put]
  go_wp2_with fail
  refine start_ (n := 49) (S := fun w' => w'.heap[w.heap.size]? = some (.cells #[.int .i64 q0, .int .i64 q1, .int .i64 q2] 99 (0, 0)) ∧ w'.heap[w.heap.size + 1]? = some (.cells #[.int .i64 c0, .int .i64 c1, .float .f64 c2, .int .i64 c3, .int .i64 c4, .int .i64 c5, .int .i64 c6, .int .i64 c7, .int .i64 c8, .bool c9, .bool c10] 95 (0, 0)) ∧ w'.heap[w.heap.size + 2]? = some (.cells #[.int .i64 a0, .int .i64 a1] 62 (0, 0)) ∧ w'.heap[gp]? = some (.cells #[.int .i64 t0, .int .i64 t1, .int .i64 t2] 99 (0, 0)) ∧ w'.heap[gr]? = some (.cells #[.int .i64 t0, .int .i64 t1, .int .i64 t2] 104 (0, 0))) (ds := []) #[false, false, false, false, false, false, false, false, false, false, false, false, false, false, false, false, false, false, false, false, false, false, false, false, false, false, false, false, false, false, false, false, false, false, false, false, false, false, false, false, false, false, false, false, false, false, false, false, false] (by kernel_rfl) rfl rfl ⟨Ks0.out, Kc0.out, Ka0.out, Kp0.out, Kr0.out⟩ (fun hHeld => ?_)
  refine with_tabW rgnIdleTells.tab2 rgnIdleTells.bits2 (fun HT_ HW_ => ?_)
  have nb_ := Lib.hid (below_drew1 BB0.out); clear BB0; have BB0 := nb_; clear nb_
  have n0_ := Lib.hid (blk_drew Ks0.out); have n1_ := Lib.hid (blk_drew Kc0.out); have n2_ := Lib.hid (blk_drew Ka0.out); have n3_ := Lib.hid (blk_drew Kp0.out); have n4_ := Lib.hid (blk_drew Kr0.out); clear Ks0 Kc0 Ka0 Kp0 Kr0; have Ks0 := n0_; have Kc0 := n1_; have Ka0 := n2_; have Kp0 := n3_; have Kr0 := n4_; clear n0_ n1_ n2_ n3_ n4_
  revert Ks0 Kc0 Ka0 Kp0 Kr0 BB0 hHeld
  generalize wz.drew = wd
  intro hHeld BB0 Ks0 Kc0 Ka0 Kp0 Kr0
  refine take_ (i := 0) (N := some 23) (v := ?_) (a' := ?_) #[true, false, false, false, false, false, false, false, false, false, false, false, false, false, false, false, false, false, false, false, false, false, false, false, false, false, false, false, false, false, false, false, false, false, false, false, false, false, false, false, false, false, false, false, false, false, false, false, false] rfl rfl (take_ofW HT_.out HW_.out (by kernel_rfl)) (fun _ _ _ h => h) (Or.inl ⟨by rfl, ?_⟩) hHeld ?_ ?_
  rotate_left
  · rintro w' ⟨s0, s1, s2, s3, s4⟩
    exact (ldrow (P := Try.prog) 99 _ _ Try.underlying99 rfl (by exact info_p) _ _ (.tmp 7) _ rfl (by rfl) w' s3).trans (by with_reducible rfl)
  rotate_left
  · simp only [Act.put, List.setIfInBounds_toArray, List.set_cons_zero, List.set_cons_succ, i64_w, i32_w]
    rfl
  refine take_ (i := 1) (N := some 24) (v := ?_) (a' := ?_) #[true, true, false, false, false, false, false, false, false, false, false, false, false, false, false, false, false, false, false, false, false, false, false, false, false, false, false, false, false, false, false, false, false, false, false, false, false, false, false, false, false, false, false, false, false, false, false, false, false] rfl rfl (take_ofW HT_.out HW_.out (by kernel_rfl)) (fun _ _ _ h => h) (Or.inl ⟨by rfl, ?_⟩) hHeld ?_ ?_
  rotate_left
  · rintro w' ⟨s0, s1, s2, s3, s4⟩
    exact (ldrow (P := Try.prog) 104 _ _ Try.underlying104 rfl (by exact info_r) _ _ (.tmp 8) _ rfl (by rfl) w' s4).trans (by with_reducible rfl)
  rotate_left
  · simp only [Act.put, List.setIfInBounds_toArray, List.set_cons_zero, List.set_cons_succ, i64_w, i32_w]
    rfl
  refine pure_ (i := 2) (N := some 25) (v := ?_) (a' := ?_) #[true, true, true, false, false, false, false, false, false, false, false, false, false, false, false, false, false, false, false, false, false, false, false, false, false, false, false, false, false, false, false, false, false, false, false, false, false, false, false, false, false, false, false, false, false, false, false, false, false] rfl rfl (any_of HT_.out (by kernel_rfl)) (fun _ _ _ h => h) (Or.inl ⟨by rfl, ?_⟩) ?_ ?_
  rotate_left
  · intro w'
    go_simp
    with_reducible rfl
  rotate_left
  · simp only [Act.put, List.setIfInBounds_toArray, List.set_cons_zero, List.set_cons_succ, i64_w, i32_w]
    rfl
  refine pure_ (i := 3) (N := some 26) (v := ?_) (a' := ?_) #[true, true, true, true, false, false, false, false, false, false, false, false, false, false, false, false, false, false, false, false, false, false, false, false, false, false, false, false, false, false, false, false, false, false, false, false, false, false, false, false, false, false, false, false, false, false, false, false, false] rfl rfl (any_of HT_.out (by kernel_rfl)) (fun _ _ _ h => h) (Or.inl ⟨by rfl, ?_⟩) ?_ ?_
  rotate_left
  · intro w'
    go_simp
    with_reducible rfl
  rotate_left
  · simp only [Act.put, List.setIfInBounds_toArray, List.set_cons_zero, List.set_cons_succ, i64_w, i32_w]
    rfl
  refine pure_ (i := 5) (N := some 28) (v := ?_) (a' := ?_) #[true, true, true, true, false, true, false, false, false, false, false, false, false, false, false, false, false, false, false, false, false, false, false, false, false, false, false, false, false, false, false, false, false, false, false, false, false, false, false, false, false, false, false, false, false, false, false, false, false] rfl rfl (any_of HT_.out (by kernel_rfl)) (fun _ _ _ h => h) (Or.inl ⟨by rfl, ?_⟩) ?_ ?_
  rotate_left
  · intro w'
    go_simp
    with_reducible rfl
  rotate_left
  · simp only [Act.put, List.setIfInBounds_toArray, List.set_cons_zero, List.set_cons_succ, i64_w, i32_w]
    rfl
  refine pure_ (i := 9) (N := some 32) (v := ?_) (a' := ?_) #[true, true, true, true, false, true, false, false, false, true, false, false, false, false, false, false, false, false, false, false, false, false, false, false, false, false, false, false, false, false, false, false, false, false, false, false, false, false, false, false, false, false, false, false, false, false, false, false, false] rfl rfl (any_of HT_.out (by kernel_rfl)) (fun _ _ _ h => h) (Or.inl ⟨by rfl, ?_⟩) ?_ ?_
  rotate_left
  · intro w'
    go_simp
    with_reducible rfl
  rotate_left
  · simp only [Act.put, List.setIfInBounds_toArray, List.set_cons_zero, List.set_cons_succ, i64_w, i32_w]
    rfl
  refine take_ (i := 4) (N := some 27) (v := ?_) (a' := ?_) #[true, true, true, true, true, true, false, false, false, true, false, false, false, false, false, false, false, false, false, false, false, false, false, false, false, false, false, false, false, false, false, false, false, false, false, false, false, false, false, false, false, false, false, false, false, false, false, false, false] rfl rfl (take_ofW HT_.out HW_.out (by kernel_rfl)) (fun _ _ _ h => h) (Or.inl ⟨by rfl, ?_⟩) hHeld ?_ ?_
  rotate_left
  · rintro w' ⟨s0, s1, s2, s3, s4⟩
    exact (ldrow (P := Try.prog) 95 _ _ Try.underlying95 rfl (by exact info_c) _ _ (.tmp 4) _ rfl (by rfl) w' s1).trans (by with_reducible rfl)
  rotate_left
  · simp only [Act.put, List.setIfInBounds_toArray, List.set_cons_zero, List.set_cons_succ, i64_w, i32_w]
    rfl
  refine take_ (i := 6) (N := some 29) (v := ?_) (a' := ?_) #[true, true, true, true, true, true, true, false, false, true, false, false, false, false, false, false, false, false, false, false, false, false, false, false, false, false, false, false, false, false, false, false, false, false, false, false, false, false, false, false, false, false, false, false, false, false, false, false, false] rfl rfl (take_ofW HT_.out HW_.out (by kernel_rfl)) (fun _ _ _ h => h) (Or.inl ⟨by rfl, ?_⟩) hHeld ?_ ?_
  rotate_left
  · rintro w' ⟨s0, s1, s2, s3, s4⟩
    have c_ : w'.cell? ⟨w.heap.size + 2, 1, none⟩ = some (.int .i64 a1) := (blk_cell s2 1).trans rfl
    go_simp
    with_reducible rfl
  rotate_left
  · simp only [Act.put, List.setIfInBounds_toArray, List.set_cons_zero, List.set_cons_succ, i64_w, i32_w]
    rfl
  refine take_ (i := 8) (N := some 31) (v := ?_) (a' := ?_) #[true, true, true, true, true, true, true, false, true, true, false, false, false, false, false, false, false, false, false, false, false, false, false, false, false, false, false, false, false, false, false, false, false, false, false, false, false, false, false, false, false, false, false, false, false, false, false, false, false] rfl rfl (take_ofW HT_.out HW_.out (by kernel_rfl)) (fun _ _ _ h => h) (Or.inl ⟨by rfl, ?_⟩) hHeld ?_ ?_
  rotate_left
  · rintro w' ⟨s0, s1, s2, s3, s4⟩
    exact (ldrow (P := Try.prog) 95 _ _ Try.underlying95 rfl (by exact info_c) _ _ (.tmp 4) _ rfl (by rfl) w' s1).trans (by with_reducible rfl)
  rotate_left
  · simp only [Act.put, List.setIfInBounds_toArray, List.set_cons_zero, List.set_cons_succ, i64_w, i32_w]
    rfl
  refine take_ (i := 10) (N := some 33) (v := ?_) (a' := ?_) #[true, true, true, true, true, true, true, false, true, true, true, false, false, false, false, false, false, false, false, false, false, false, false, false, false, false, false, false, false, false, false, false, false, false, false, false, false, false, false, false, false, false, false, false, false, false, false, false, false] rfl rfl (take_ofW HT_.out HW_.out (by kernel_rfl)) (fun _ _ _ h => h) (Or.inl ⟨by rfl, ?_⟩) hHeld ?_ ?_
  rotate_left
  · rintro w' ⟨s0, s1, s2, s3, s4⟩
    have c_ : w'.cell? ⟨w.heap.size + 2, 1, none⟩ = some (.int .i64 a1) := (blk_cell s2 1).trans rfl
    go_simp
    with_reducible rfl
  rotate_left
  · simp only [Act.put, List.setIfInBounds_toArray, List.set_cons_zero, List.set_cons_succ, i64_w, i32_w]
    rfl
  refine one_ (i := 7) (N := some 30) #[true, true, true, true, true, true, true, true, true, true, true, false, false, false, false, false, false, false, false, false, false, false, false, false, false, false, false, false, false, false, false, false, false, false, false, false, false, false, false, false, false, false, false, false, false, false, false, false, false] rfl rfl (one_of HT_.out (by kernel_rfl)) (by decide) (fun K hK => ?_)
  refine goes_ Try.func90 (by kernel_rfl) rfl #[.agg #[.int .i64 c0, .int .i64 c1, .float .f64 c2, .int .i64 c3, .int .i64 c4, .int .i64 c5, .int .i64 c6, .int .i64 c7, .int .i64 c8, .bool c9, .bool c10], .int .i64 a1] (by rfl) rfl rfl (by simp only [List.map_toArray, List.map_cons, List.map_nil]; rfl) ?_
  with_reducible refine (H3.out _).mono ?_
  rintro e u7 ⟨rfl, hb⟩
  have Ks1 : Hid (u7.heap[w.heap.size]? = some (.cells #[.int .i64 q0, .int .i64 q1, .int .i64 q2] 99 (0, 0))) := Lib.hid (blk_below (by exact Ks0.out) hb)
  have Kc1 : Hid (u7.heap[w.heap.size + 1]? = some (.cells #[.int .i64 c0, .int .i64 c1, .float .f64 c2, .int .i64 c3, .int .i64 c4, .int .i64 c5, .int .i64 c6, .int .i64 c7, .int .i64 c8, .bool c9, .bool c10] 95 (0, 0))) := Lib.hid (blk_below (by exact Kc0.out) hb)
  have Ka1 : Hid (u7.heap[w.heap.size + 2]? = some (.cells #[.int .i64 a0, .int .i64 a1] 62 (0, 0))) := Lib.hid (blk_below (by exact Ka0.out) hb)
  have Kp1 : Hid (u7.heap[gp]? = some (.cells #[.int .i64 t0, .int .i64 t1, .int .i64 t2] 99 (0, 0))) := Lib.hid (blk_below (by exact Kp0.out) hb)
  have Kr1 : Hid (u7.heap[gr]? = some (.cells #[.int .i64 t0, .int .i64 t1, .int .i64 t2] 104 (0, 0))) := Lib.hid (blk_below (by exact Kr0.out) hb)
  have BB1 : Hid (Below w.heap.size w u7) := Lib.hid (Below.trans (by exact BB0.out) (hb.mono (by have := BB0.out.size; simpa using this)))
  clear hb
  refine ⟨_, rfl, ?_⟩
  refine hK.out _ _ ⟨Ks1.out, Kc1.out, Ka1.out, Kp1.out, Kr1.out⟩ (fun hHeld => ?_)
  clear hK K
  refine norm_ (a' := ?_) ?_ ?_
  rotate_left
  · show Act.put _ (some 30) _ = _
    simp only [Act.put, List.setIfInBounds_toArray, List.set_cons_zero, List.set_cons_succ, i64_w, i32_w]
    rfl
  refine one_ (i := 11) (N := some 34) #[true, true, true, true, true, true, true, true, true, true, true, true, false, false, false, false, false, false, false, false, false, false, false, false, false, false, false, false, false, false, false, false, false, false, false, false, false, false, false, false, false, false, false, false, false, false, false, false, false] rfl rfl (one_of HT_.out (by kernel_rfl)) (by decide) (fun K hK => ?_)
  refine goes_ Try.func92 (by kernel_rfl) rfl #[.agg #[.int .i64 c0, .int .i64 c1, .float .f64 c2, .int .i64 c3, .int .i64 c4, .int .i64 c5, .int .i64 c6, .int .i64 c7, .int .i64 c8, .bool c9, .bool c10], .int .i64 a1] (by rfl) rfl rfl (by simp only [List.map_toArray, List.map_cons, List.map_nil]; rfl) ?_
  with_reducible refine (H4.out _).mono ?_
  rintro e u11 ⟨rfl, hb⟩
  have Ks2 : Hid (u11.heap[w.heap.size]? = some (.cells #[.int .i64 q0, .int .i64 q1, .int .i64 q2] 99 (0, 0))) := Lib.hid (blk_below (by exact Ks1.out) hb)
  have Kc2 : Hid (u11.heap[w.heap.size + 1]? = some (.cells #[.int .i64 c0, .int .i64 c1, .float .f64 c2, .int .i64 c3, .int .i64 c4, .int .i64 c5, .int .i64 c6, .int .i64 c7, .int .i64 c8, .bool c9, .bool c10] 95 (0, 0))) := Lib.hid (blk_below (by exact Kc1.out) hb)
  have Ka2 : Hid (u11.heap[w.heap.size + 2]? = some (.cells #[.int .i64 a0, .int .i64 a1] 62 (0, 0))) := Lib.hid (blk_below (by exact Ka1.out) hb)
  have Kp2 : Hid (u11.heap[gp]? = some (.cells #[.int .i64 t0, .int .i64 t1, .int .i64 t2] 99 (0, 0))) := Lib.hid (blk_below (by exact Kp1.out) hb)
  have Kr2 : Hid (u11.heap[gr]? = some (.cells #[.int .i64 t0, .int .i64 t1, .int .i64 t2] 104 (0, 0))) := Lib.hid (blk_below (by exact Kr1.out) hb)
  have BB2 : Hid (Below w.heap.size w u11) := Lib.hid (Below.trans (by exact BB1.out) (hb.mono (by have := BB1.out.size; simpa using this)))
  clear hb
  refine ⟨_, rfl, ?_⟩
  refine hK.out _ _ ⟨Ks2.out, Kc2.out, Ka2.out, Kp2.out, Kr2.out⟩ (fun hHeld => ?_)
  clear hK K
  refine norm_ (a' := ?_) ?_ ?_
  rotate_left
  · show Act.put _ (some 34) _ = _
    simp only [Act.put, List.setIfInBounds_toArray, List.set_cons_zero, List.set_cons_succ, i64_w, i32_w]
    rfl
  refine pure_ (i := 12) (N := some 35) (v := ?_) (a' := ?_) #[true, true, true, true, true, true, true, true, true, true, true, true, true, false, false, false, false, false, false, false, false, false, false, false, false, false, false, false, false, false, false, false, false, false, false, false, false, false, false, false, false, false, false, false, false, false, false, false, false] rfl rfl (any_of HT_.out (by kernel_rfl)) (fun _ _ _ h => h) (Or.inl ⟨by rfl, ?_⟩) ?_ ?_
  rotate_left
  · intro w'
    go_simp
    with_reducible rfl
  rotate_left
  · simp only [Act.put, List.setIfInBounds_toArray, List.set_cons_zero, List.set_cons_succ, i64_w, i32_w]
    rfl
  refine pure_ (i := 13) (N := some 36) (v := ?_) (a' := ?_) #[true, true, true, true, true, true, true, true, true, true, true, true, true, true, false, false, false, false, false, false, false, false, false, false, false, false, false, false, false, false, false, false, false, false, false, false, false, false, false, false, false, false, false, false, false, false, false, false, false] rfl rfl (any_of HT_.out (by kernel_rfl)) (fun _ _ _ h => h) (Or.inl ⟨by rfl, ?_⟩) ?_ ?_
  rotate_left
  · intro w'
    go_simp
    with_reducible rfl
  rotate_left
  · simp only [Act.put, List.setIfInBounds_toArray, List.set_cons_zero, List.set_cons_succ, i64_w, i32_w]
    rfl
  refine pure_ (i := 14) (N := some 37) (v := ?_) (a' := ?_) #[true, true, true, true, true, true, true, true, true, true, true, true, true, true, true, false, false, false, false, false, false, false, false, false, false, false, false, false, false, false, false, false, false, false, false, false, false, false, false, false, false, false, false, false, false, false, false, false, false] rfl rfl (any_of HT_.out (by kernel_rfl)) (fun _ _ _ h => h) (Or.inl ⟨by rfl, ?_⟩) ?_ ?_
  rotate_left
  · intro w'
    go_simp
    with_reducible rfl
  rotate_left
  · simp only [Act.put, List.setIfInBounds_toArray, List.set_cons_zero, List.set_cons_succ, i64_w, i32_w]
    rfl
  refine take_ (i := 15) (N := some 38) (v := ?_) (a' := ?_) #[true, true, true, true, true, true, true, true, true, true, true, true, true, true, true, true, false, false, false, false, false, false, false, false, false, false, false, false, false, false, false, false, false, false, false, false, false, false, false, false, false, false, false, false, false, false, false, false, false] rfl rfl (take_ofW HT_.out HW_.out (by kernel_rfl)) (fun _ _ _ h => h) (Or.inl ⟨by rfl, ?_⟩) hHeld ?_ ?_
  rotate_left
  · rintro w' ⟨s0, s1, s2, s3, s4⟩
    exact (ldrow (P := Try.prog) 99 _ _ Try.underlying99 rfl (by exact info_s) _ _ (.tmp 3) _ rfl (by rfl) w' s0).trans (by with_reducible rfl)
  rotate_left
  · simp only [Act.put, List.setIfInBounds_toArray, List.set_cons_zero, List.set_cons_succ, i64_w, i32_w]
    rfl
  refine take_ (i := 16) (N := some 39) (v := ?_) (a' := ?_) #[true, true, true, true, true, true, true, true, true, true, true, true, true, true, true, true, true, false, false, false, false, false, false, false, false, false, false, false, false, false, false, false, false, false, false, false, false, false, false, false, false, false, false, false, false, false, false, false, false] rfl rfl (take_ofW HT_.out HW_.out (by kernel_rfl)) (fun _ _ _ h => h) (Or.inl ⟨by rfl, ?_⟩) hHeld ?_ ?_
  rotate_left
  · rintro w' ⟨s0, s1, s2, s3, s4⟩
    exact (ldrow (P := Try.prog) 95 _ _ Try.underlying95 rfl (by exact info_c) _ _ (.tmp 4) _ rfl (by rfl) w' s1).trans (by with_reducible rfl)
  rotate_left
  · simp only [Act.put, List.setIfInBounds_toArray, List.set_cons_zero, List.set_cons_succ, i64_w, i32_w]
    rfl
  refine take_ (i := 18) (N := some 41) (v := ?_) (a' := ?_) #[true, true, true, true, true, true, true, true, true, true, true, true, true, true, true, true, true, false, true, false, false, false, false, false, false, false, false, false, false, false, false, false, false, false, false, false, false, false, false, false, false, false, false, false, false, false, false, false, false] rfl rfl (take_ofW HT_.out HW_.out (by kernel_rfl)) (fun _ _ _ h => h) (Or.inl ⟨by rfl, ?_⟩) hHeld ?_ ?_
  rotate_left
  · rintro w' ⟨s0, s1, s2, s3, s4⟩
    exact (ldrow (P := Try.prog) 99 _ _ Try.underlying99 rfl (by exact info_s) _ _ (.tmp 3) _ rfl (by rfl) w' s0).trans (by with_reducible rfl)
  rotate_left
  · simp only [Act.put, List.setIfInBounds_toArray, List.set_cons_zero, List.set_cons_succ, i64_w, i32_w]
    rfl
  refine take_ (i := 19) (N := some 42) (v := ?_) (a' := ?_) #[true, true, true, true, true, true, true, true, true, true, true, true, true, true, true, true, true, false, true, true, false, false, false, false, false, false, false, false, false, false, false, false, false, false, false, false, false, false, false, false, false, false, false, false, false, false, false, false, false] rfl rfl (take_ofW HT_.out HW_.out (by kernel_rfl)) (fun _ _ _ h => h) (Or.inl ⟨by rfl, ?_⟩) hHeld ?_ ?_
  rotate_left
  · rintro w' ⟨s0, s1, s2, s3, s4⟩
    exact (ldrow (P := Try.prog) 95 _ _ Try.underlying95 rfl (by exact info_c) _ _ (.tmp 4) _ rfl (by rfl) w' s1).trans (by with_reducible rfl)
  rotate_left
  · simp only [Act.put, List.setIfInBounds_toArray, List.set_cons_zero, List.set_cons_succ, i64_w, i32_w]
    rfl
  refine one_ (i := 17) (N := some 40) #[true, true, true, true, true, true, true, true, true, true, true, true, true, true, true, true, true, true, true, true, false, false, false, false, false, false, false, false, false, false, false, false, false, false, false, false, false, false, false, false, false, false, false, false, false, false, false, false, false] rfl rfl (one_of HT_.out (by kernel_rfl)) (by decide) (fun K hK => ?_)
  refine goes_ Try.func95 (by kernel_rfl) rfl #[.agg #[.int .i64 q0, .int .i64 q1, .int .i64 q2], .agg #[.int .i64 c0, .int .i64 c1, .float .f64 c2, .int .i64 c3, .int .i64 c4, .int .i64 c5, .int .i64 c6, .int .i64 c7, .int .i64 c8, .bool c9, .bool c10]] (by rfl) rfl rfl (by simp only [List.map_toArray, List.map_cons, List.map_nil]; rfl) ?_
  with_reducible refine (H5.out _).mono ?_
  rintro e u17 ⟨rfl, hb⟩
  have Ks3 : Hid (u17.heap[w.heap.size]? = some (.cells #[.int .i64 q0, .int .i64 q1, .int .i64 q2] 99 (0, 0))) := Lib.hid (blk_below (by exact Ks2.out) hb)
  have Kc3 : Hid (u17.heap[w.heap.size + 1]? = some (.cells #[.int .i64 c0, .int .i64 c1, .float .f64 c2, .int .i64 c3, .int .i64 c4, .int .i64 c5, .int .i64 c6, .int .i64 c7, .int .i64 c8, .bool c9, .bool c10] 95 (0, 0))) := Lib.hid (blk_below (by exact Kc2.out) hb)
  have Ka3 : Hid (u17.heap[w.heap.size + 2]? = some (.cells #[.int .i64 a0, .int .i64 a1] 62 (0, 0))) := Lib.hid (blk_below (by exact Ka2.out) hb)
  have Kp3 : Hid (u17.heap[gp]? = some (.cells #[.int .i64 t0, .int .i64 t1, .int .i64 t2] 99 (0, 0))) := Lib.hid (blk_below (by exact Kp2.out) hb)
  have Kr3 : Hid (u17.heap[gr]? = some (.cells #[.int .i64 t0, .int .i64 t1, .int .i64 t2] 104 (0, 0))) := Lib.hid (blk_below (by exact Kr2.out) hb)
  have BB3 : Hid (Below w.heap.size w u17) := Lib.hid (Below.trans (by exact BB2.out) (hb.mono (by have := BB2.out.size; simpa using this)))
  clear hb
  refine ⟨_, rfl, ?_⟩
  refine hK.out _ _ ⟨Ks3.out, Kc3.out, Ka3.out, Kp3.out, Kr3.out⟩ (fun hHeld => ?_)
  clear hK K
  refine norm_ (a' := ?_) ?_ ?_
  rotate_left
  · show Act.put _ (some 40) _ = _
    simp only [Act.put, List.setIfInBounds_toArray, List.set_cons_zero, List.set_cons_succ, i64_w, i32_w]
    rfl
  refine one_ (i := 20) (N := some 43) #[true, true, true, true, true, true, true, true, true, true, true, true, true, true, true, true, true, true, true, true, true, false, false, false, false, false, false, false, false, false, false, false, false, false, false, false, false, false, false, false, false, false, false, false, false, false, false, false, false] rfl rfl (one_of HT_.out (by kernel_rfl)) (by decide) (fun K hK => ?_)
  refine goes_ Try.func96 (by kernel_rfl) rfl #[.agg #[.int .i64 q0, .int .i64 q1, .int .i64 q2], .agg #[.int .i64 c0, .int .i64 c1, .float .f64 c2, .int .i64 c3, .int .i64 c4, .int .i64 c5, .int .i64 c6, .int .i64 c7, .int .i64 c8, .bool c9, .bool c10]] (by rfl) rfl rfl (by simp only [List.map_toArray, List.map_cons, List.map_nil]; rfl) ?_
  with_reducible refine (H6.out _).mono ?_
  rintro e u20 ⟨rfl, hb⟩
  have Ks4 : Hid (u20.heap[w.heap.size]? = some (.cells #[.int .i64 q0, .int .i64 q1, .int .i64 q2] 99 (0, 0))) := Lib.hid (blk_below (by exact Ks3.out) hb)
  have Kc4 : Hid (u20.heap[w.heap.size + 1]? = some (.cells #[.int .i64 c0, .int .i64 c1, .float .f64 c2, .int .i64 c3, .int .i64 c4, .int .i64 c5, .int .i64 c6, .int .i64 c7, .int .i64 c8, .bool c9, .bool c10] 95 (0, 0))) := Lib.hid (blk_below (by exact Kc3.out) hb)
  have Ka4 : Hid (u20.heap[w.heap.size + 2]? = some (.cells #[.int .i64 a0, .int .i64 a1] 62 (0, 0))) := Lib.hid (blk_below (by exact Ka3.out) hb)
  have Kp4 : Hid (u20.heap[gp]? = some (.cells #[.int .i64 t0, .int .i64 t1, .int .i64 t2] 99 (0, 0))) := Lib.hid (blk_below (by exact Kp3.out) hb)
  have Kr4 : Hid (u20.heap[gr]? = some (.cells #[.int .i64 t0, .int .i64 t1, .int .i64 t2] 104 (0, 0))) := Lib.hid (blk_below (by exact Kr3.out) hb)
  have BB4 : Hid (Below w.heap.size w u20) := Lib.hid (Below.trans (by exact BB3.out) (hb.mono (by have := BB3.out.size; simpa using this)))
  clear hb
  refine ⟨_, rfl, ?_⟩
  refine hK.out _ _ ⟨Ks4.out, Kc4.out, Ka4.out, Kp4.out, Kr4.out⟩ (fun hHeld => ?_)
  clear hK K
  refine norm_ (a' := ?_) ?_ ?_
  rotate_left
  · show Act.put _ (some 43) _ = _
    simp only [Act.put, List.setIfInBounds_toArray, List.set_cons_zero, List.set_cons_succ, i64_w, i32_w]
    rfl
  refine pure_ (i := 21) (N := some 44) (v := ?_) (a' := ?_) #[true, true, true, true, true, true, true, true, true, true, true, true, true, true, true, true, true, true, true, true, true, true, false, false, false, false, false, false, false, false, false, false, false, false, false, false, false, false, false, false, false, false, false, false, false, false, false, false, false] rfl rfl (any_of HT_.out (by kernel_rfl)) (fun _ _ _ h => h) (Or.inl ⟨by rfl, ?_⟩) ?_ ?_
  rotate_left
  · intro w'
    go_simp
    with_reducible rfl
  rotate_left
  · simp only [Act.put, List.setIfInBounds_toArray, List.set_cons_zero, List.set_cons_succ, i64_w, i32_w]
    rfl
  refine pure_ (i := 22) (N := some 45) (v := ?_) (a' := ?_) #[true, true, true, true, true, true, true, true, true, true, true, true, true, true, true, true, true, true, true, true, true, true, true, false, false, false, false, false, false, false, false, false, false, false, false, false, false, false, false, false, false, false, false, false, false, false, false, false, false] rfl rfl (any_of HT_.out (by kernel_rfl)) (fun _ _ _ h => h) (Or.inl ⟨by rfl, ?_⟩) ?_ ?_
  rotate_left
  · intro w'
    go_simp
    with_reducible rfl
  rotate_left
  · simp only [Act.put, List.setIfInBounds_toArray, List.set_cons_zero, List.set_cons_succ, i64_w, i32_w]
    rfl
  refine pure_ (i := 23) (N := some 46) (v := ?_) (a' := ?_) #[true, true, true, true, true, true, true, true, true, true, true, true, true, true, true, true, true, true, true, true, true, true, true, true, false, false, false, false, false, false, false, false, false, false, false, false, false, false, false, false, false, false, false, false, false, false, false, false, false] rfl rfl (any_of HT_.out (by kernel_rfl)) (fun _ _ _ h => h) (Or.inl ⟨by rfl, ?_⟩) ?_ ?_
  rotate_left
  · intro w'
    go_simp
    with_reducible rfl
  rotate_left
  · simp only [Act.put, List.setIfInBounds_toArray, List.set_cons_zero, List.set_cons_succ, i64_w, i32_w]
    rfl
  refine pure_ (i := 25) (N := some 48) (v := ?_) (a' := ?_) #[true, true, true, true, true, true, true, true, true, true, true, true, true, true, true, true, true, true, true, true, true, true, true, true, false, true, false, false, false, false, false, false, false, false, false, false, false, false, false, false, false, false, false, false, false, false, false, false, false] rfl rfl (any_of HT_.out (by kernel_rfl)) (fun _ _ _ h => h) (Or.inl ⟨by rfl, ?_⟩) ?_ ?_
  rotate_left
  · intro w'
    go_simp
    with_reducible rfl
  rotate_left
  · simp only [Act.put, List.setIfInBounds_toArray, List.set_cons_zero, List.set_cons_succ, i64_w, i32_w]
    rfl
  refine pure_ (i := 29) (N := some 52) (v := ?_) (a' := ?_) #[true, true, true, true, true, true, true, true, true, true, true, true, true, true, true, true, true, true, true, true, true, true, true, true, false, true, false, false, false, true, false, false, false, false, false, false, false, false, false, false, false, false, false, false, false, false, false, false, false] rfl rfl (any_of HT_.out (by kernel_rfl)) (fun _ _ _ h => h) (Or.inl ⟨by rfl, ?_⟩) ?_ ?_
  rotate_left
  · intro w'
    go_simp
    with_reducible rfl
  rotate_left
  · simp only [Act.put, List.setIfInBounds_toArray, List.set_cons_zero, List.set_cons_succ, i64_w, i32_w]
    rfl
  refine take_ (i := 24) (N := some 47) (v := ?_) (a' := ?_) #[true, true, true, true, true, true, true, true, true, true, true, true, true, true, true, true, true, true, true, true, true, true, true, true, true, true, false, false, false, true, false, false, false, false, false, false, false, false, false, false, false, false, false, false, false, false, false, false, false] rfl rfl (take_ofW HT_.out HW_.out (by kernel_rfl)) (fun _ _ _ h => h) (Or.inl ⟨by rfl, ?_⟩) hHeld ?_ ?_
  rotate_left
  · rintro w' ⟨s0, s1, s2, s3, s4⟩
    exact (ldrow (P := Try.prog) 99 _ _ Try.underlying99 rfl (by exact info_s) _ _ (.tmp 3) _ rfl (by rfl) w' s0).trans (by with_reducible rfl)
  rotate_left
  · simp only [Act.put, List.setIfInBounds_toArray, List.set_cons_zero, List.set_cons_succ, i64_w, i32_w]
    rfl
  refine take_ (i := 26) (N := some 49) (v := ?_) (a' := ?_) #[true, true, true, true, true, true, true, true, true, true, true, true, true, true, true, true, true, true, true, true, true, true, true, true, true, true, true, false, false, true, false, false, false, false, false, false, false, false, false, false, false, false, false, false, false, false, false, false, false] rfl rfl (take_ofW HT_.out HW_.out (by kernel_rfl)) (fun _ _ _ h => h) (Or.inl ⟨by rfl, ?_⟩) hHeld ?_ ?_
  rotate_left
  · rintro w' ⟨s0, s1, s2, s3, s4⟩
    have c_ : w'.cell? ⟨w.heap.size + 2, 1, none⟩ = some (.int .i64 a1) := (blk_cell s2 1).trans rfl
    go_simp
    with_reducible rfl
  rotate_left
  · simp only [Act.put, List.setIfInBounds_toArray, List.set_cons_zero, List.set_cons_succ, i64_w, i32_w]
    rfl
  refine take_ (i := 28) (N := some 51) (v := ?_) (a' := ?_) #[true, true, true, true, true, true, true, true, true, true, true, true, true, true, true, true, true, true, true, true, true, true, true, true, true, true, true, false, true, true, false, false, false, false, false, false, false, false, false, false, false, false, false, false, false, false, false, false, false] rfl rfl (take_ofW HT_.out HW_.out (by kernel_rfl)) (fun _ _ _ h => h) (Or.inl ⟨by rfl, ?_⟩) hHeld ?_ ?_
  rotate_left
  · rintro w' ⟨s0, s1, s2, s3, s4⟩
    exact (ldrow (P := Try.prog) 99 _ _ Try.underlying99 rfl (by exact info_s) _ _ (.tmp 3) _ rfl (by rfl) w' s0).trans (by with_reducible rfl)
  rotate_left
  · simp only [Act.put, List.setIfInBounds_toArray, List.set_cons_zero, List.set_cons_succ, i64_w, i32_w]
    rfl
  refine take_ (i := 30) (N := some 53) (v := ?_) (a' := ?_) #[true, true, true, true, true, true, true, true, true, true, true, true, true, true, true, true, true, true, true, true, true, true, true, true, true, true, true, false, true, true, true, false, false, false, false, false, false, false, false, false, false, false, false, false, false, false, false, false, false] rfl rfl (take_ofW HT_.out HW_.out (by kernel_rfl)) (fun _ _ _ h => h) (Or.inl ⟨by rfl, ?_⟩) hHeld ?_ ?_
  rotate_left
  · rintro w' ⟨s0, s1, s2, s3, s4⟩
    have c_ : w'.cell? ⟨w.heap.size + 2, 1, none⟩ = some (.int .i64 a1) := (blk_cell s2 1).trans rfl
    go_simp
    with_reducible rfl
  rotate_left
  · simp only [Act.put, List.setIfInBounds_toArray, List.set_cons_zero, List.set_cons_succ, i64_w, i32_w]
    rfl
  refine one_ (i := 27) (N := some 50) #[true, true, true, true, true, true, true, true, true, true, true, true, true, true, true, true, true, true, true, true, true, true, true, true, true, true, true, true, true, true, true, false, false, false, false, false, false, false, false, false, false, false, false, false, false, false, false, false, false] rfl rfl (one_of HT_.out (by kernel_rfl)) (by decide) (fun K hK => ?_)
  refine goes_ Try.func91 (by kernel_rfl) rfl #[.agg #[.int .i64 q0, .int .i64 q1, .int .i64 q2], .int .i64 a1] (by rfl) rfl rfl (by simp only [List.map_toArray, List.map_cons, List.map_nil]; rfl) ?_
  with_reducible refine (H7.out _).mono ?_
  rintro e u27 ⟨rfl, hb⟩
  have Ks5 : Hid (u27.heap[w.heap.size]? = some (.cells #[.int .i64 q0, .int .i64 q1, .int .i64 q2] 99 (0, 0))) := Lib.hid (blk_below (by exact Ks4.out) hb)
  have Kc5 : Hid (u27.heap[w.heap.size + 1]? = some (.cells #[.int .i64 c0, .int .i64 c1, .float .f64 c2, .int .i64 c3, .int .i64 c4, .int .i64 c5, .int .i64 c6, .int .i64 c7, .int .i64 c8, .bool c9, .bool c10] 95 (0, 0))) := Lib.hid (blk_below (by exact Kc4.out) hb)
  have Ka5 : Hid (u27.heap[w.heap.size + 2]? = some (.cells #[.int .i64 a0, .int .i64 a1] 62 (0, 0))) := Lib.hid (blk_below (by exact Ka4.out) hb)
  have Kp5 : Hid (u27.heap[gp]? = some (.cells #[.int .i64 t0, .int .i64 t1, .int .i64 t2] 99 (0, 0))) := Lib.hid (blk_below (by exact Kp4.out) hb)
  have Kr5 : Hid (u27.heap[gr]? = some (.cells #[.int .i64 t0, .int .i64 t1, .int .i64 t2] 104 (0, 0))) := Lib.hid (blk_below (by exact Kr4.out) hb)
  have BB5 : Hid (Below w.heap.size w u27) := Lib.hid (Below.trans (by exact BB4.out) (hb.mono (by have := BB4.out.size; simpa using this)))
  clear hb
  refine ⟨_, rfl, ?_⟩
  refine hK.out _ _ ⟨Ks5.out, Kc5.out, Ka5.out, Kp5.out, Kr5.out⟩ (fun hHeld => ?_)
  clear hK K
  refine norm_ (a' := ?_) ?_ ?_
  rotate_left
  · show Act.put _ (some 50) _ = _
    simp only [Act.put, List.setIfInBounds_toArray, List.set_cons_zero, List.set_cons_succ, i64_w, i32_w]
    rfl
  refine one_ (i := 31) (N := some 54) #[true, true, true, true, true, true, true, true, true, true, true, true, true, true, true, true, true, true, true, true, true, true, true, true, true, true, true, true, true, true, true, true, false, false, false, false, false, false, false, false, false, false, false, false, false, false, false, false, false] rfl rfl (one_of HT_.out (by kernel_rfl)) (by decide) (fun K hK => ?_)
  refine goes_ Try.func97 (by kernel_rfl) rfl #[.agg #[.int .i64 q0, .int .i64 q1, .int .i64 q2], .int .i64 a1] (by rfl) rfl rfl (by simp only [List.map_toArray, List.map_cons, List.map_nil]; rfl) ?_
  with_reducible refine (H8.out _).mono ?_
  rintro e u31 ⟨rfl, hb⟩
  have Ks6 : Hid (u31.heap[w.heap.size]? = some (.cells #[.int .i64 q0, .int .i64 q1, .int .i64 q2] 99 (0, 0))) := Lib.hid (blk_below (by exact Ks5.out) hb)
  have Kc6 : Hid (u31.heap[w.heap.size + 1]? = some (.cells #[.int .i64 c0, .int .i64 c1, .float .f64 c2, .int .i64 c3, .int .i64 c4, .int .i64 c5, .int .i64 c6, .int .i64 c7, .int .i64 c8, .bool c9, .bool c10] 95 (0, 0))) := Lib.hid (blk_below (by exact Kc5.out) hb)
  have Ka6 : Hid (u31.heap[w.heap.size + 2]? = some (.cells #[.int .i64 a0, .int .i64 a1] 62 (0, 0))) := Lib.hid (blk_below (by exact Ka5.out) hb)
  have Kp6 : Hid (u31.heap[gp]? = some (.cells #[.int .i64 t0, .int .i64 t1, .int .i64 t2] 99 (0, 0))) := Lib.hid (blk_below (by exact Kp5.out) hb)
  have Kr6 : Hid (u31.heap[gr]? = some (.cells #[.int .i64 t0, .int .i64 t1, .int .i64 t2] 104 (0, 0))) := Lib.hid (blk_below (by exact Kr5.out) hb)
  have BB6 : Hid (Below w.heap.size w u31) := Lib.hid (Below.trans (by exact BB5.out) (hb.mono (by have := BB5.out.size; simpa using this)))
  clear hb
  refine ⟨_, rfl, ?_⟩
  refine hK.out _ _ ⟨Ks6.out, Kc6.out, Ka6.out, Kp6.out, Kr6.out⟩ (fun hHeld => ?_)
  clear hK K
  refine norm_ (a' := ?_) ?_ ?_
  rotate_left
  · show Act.put _ (some 54) _ = _
    simp only [Act.put, List.setIfInBounds_toArray, List.set_cons_zero, List.set_cons_succ, i64_w, i32_w]
    rfl
  refine pure_ (i := 32) (N := some 55) (v := ?_) (a' := ?_) #[true, true, true, true, true, true, true, true, true, true, true, true, true, true, true, true, true, true, true, true, true, true, true, true, true, true, true, true, true, true, true, true, true, false, false, false, false, false, false, false, false, false, false, false, false, false, false, false, false] rfl rfl (any_of HT_.out (by kernel_rfl)) (fun _ _ _ h => h) (Or.inl ⟨by rfl, ?_⟩) ?_ ?_
  rotate_left
  · intro w'
    go_simp
    with_reducible rfl
  rotate_left
  · simp only [Act.put, List.setIfInBounds_toArray, List.set_cons_zero, List.set_cons_succ, i64_w, i32_w]
    rfl
  refine pure_ (i := 33) (N := some 56) (v := ?_) (a' := ?_) #[true, true, true, true, true, true, true, true, true, true, true, true, true, true, true, true, true, true, true, true, true, true, true, true, true, true, true, true, true, true, true, true, true, true, false, false, false, false, false, false, false, false, false, false, false, false, false, false, false] rfl rfl (any_of HT_.out (by kernel_rfl)) (fun _ _ _ h => h) (Or.inl ⟨by rfl, ?_⟩) ?_ ?_
  rotate_left
  · intro w'
    go_simp
    with_reducible rfl
  rotate_left
  · simp only [Act.put, List.setIfInBounds_toArray, List.set_cons_zero, List.set_cons_succ, i64_w, i32_w]
    rfl
  refine pure_ (i := 34) (N := some 57) (v := ?_) (a' := ?_) #[true, true, true, true, true, true, true, true, true, true, true, true, true, true, true, true, true, true, true, true, true, true, true, true, true, true, true, true, true, true, true, true, true, true, true, false, false, false, false, false, false, false, false, false, false, false, false, false, false] rfl rfl (any_of HT_.out (by kernel_rfl)) (fun _ _ _ h => h) (Or.inl ⟨by rfl, ?_⟩) ?_ ?_
  rotate_left
  · intro w'
    go_simp
    with_reducible rfl
  rotate_left
  · simp only [Act.put, List.setIfInBounds_toArray, List.set_cons_zero, List.set_cons_succ, i64_w, i32_w]
    rfl
  refine pure_ (i := 36) (N := some 59) (v := ?_) (a' := ?_) #[true, true, true, true, true, true, true, true, true, true, true, true, true, true, true, true, true, true, true, true, true, true, true, true, true, true, true, true, true, true, true, true, true, true, true, false, true, false, false, false, false, false, false, false, false, false, false, false, false] rfl rfl (any_of HT_.out (by kernel_rfl)) (fun _ _ _ h => h) (Or.inl ⟨by rfl, ?_⟩) ?_ ?_
  rotate_left
  · intro w'
    go_simp
    with_reducible rfl
  rotate_left
  · simp only [Act.put, List.setIfInBounds_toArray, List.set_cons_zero, List.set_cons_succ, i64_w, i32_w]
    rfl
  refine pure_ (i := 40) (N := some 63) (v := ?_) (a' := ?_) #[true, true, true, true, true, true, true, true, true, true, true, true, true, true, true, true, true, true, true, true, true, true, true, true, true, true, true, true, true, true, true, true, true, true, true, false, true, false, false, false, true, false, false, false, false, false, false, false, false] rfl rfl (any_of HT_.out (by kernel_rfl)) (fun _ _ _ h => h) (Or.inl ⟨by rfl, ?_⟩) ?_ ?_
  rotate_left
  · intro w'
    go_simp
    with_reducible rfl
  rotate_left
  · simp only [Act.put, List.setIfInBounds_toArray, List.set_cons_zero, List.set_cons_succ, i64_w, i32_w]
    rfl
  refine take_ (i := 35) (N := some 58) (v := ?_) (a' := ?_) #[true, true, true, true, true, true, true, true, true, true, true, true, true, true, true, true, true, true, true, true, true, true, true, true, true, true, true, true, true, true, true, true, true, true, true, true, true, false, false, false, true, false, false, false, false, false, false, false, false] rfl rfl (take_ofW HT_.out HW_.out (by kernel_rfl)) (fun _ _ _ h => h) (Or.inl ⟨by rfl, ?_⟩) hHeld ?_ ?_
  rotate_left
  · rintro w' ⟨s0, s1, s2, s3, s4⟩
    exact (ldrow (P := Try.prog) 99 _ _ Try.underlying99 rfl (by exact info_s) _ _ (.tmp 3) _ rfl (by rfl) w' s0).trans (by with_reducible rfl)
  rotate_left
  · simp only [Act.put, List.setIfInBounds_toArray, List.set_cons_zero, List.set_cons_succ, i64_w, i32_w]
    rfl
  refine take_ (i := 37) (N := some 60) (v := ?_) (a' := ?_) #[true, true, true, true, true, true, true, true, true, true, true, true, true, true, true, true, true, true, true, true, true, true, true, true, true, true, true, true, true, true, true, true, true, true, true, true, true, true, false, false, true, false, false, false, false, false, false, false, false] rfl rfl (take_ofW HT_.out HW_.out (by kernel_rfl)) (fun _ _ _ h => h) (Or.inl ⟨by rfl, ?_⟩) hHeld ?_ ?_
  rotate_left
  · rintro w' ⟨s0, s1, s2, s3, s4⟩
    have c_ : w'.cell? ⟨w.heap.size + 2, 1, none⟩ = some (.int .i64 a1) := (blk_cell s2 1).trans rfl
    go_simp
    with_reducible rfl
  rotate_left
  · simp only [Act.put, List.setIfInBounds_toArray, List.set_cons_zero, List.set_cons_succ, i64_w, i32_w]
    rfl
  refine take_ (i := 39) (N := some 62) (v := ?_) (a' := ?_) #[true, true, true, true, true, true, true, true, true, true, true, true, true, true, true, true, true, true, true, true, true, true, true, true, true, true, true, true, true, true, true, true, true, true, true, true, true, true, false, true, true, false, false, false, false, false, false, false, false] rfl rfl (take_ofW HT_.out HW_.out (by kernel_rfl)) (fun _ _ _ h => h) (Or.inl ⟨by rfl, ?_⟩) hHeld ?_ ?_
  rotate_left
  · rintro w' ⟨s0, s1, s2, s3, s4⟩
    exact (ldrow (P := Try.prog) 99 _ _ Try.underlying99 rfl (by exact info_s) _ _ (.tmp 3) _ rfl (by rfl) w' s0).trans (by with_reducible rfl)
  rotate_left
  · simp only [Act.put, List.setIfInBounds_toArray, List.set_cons_zero, List.set_cons_succ, i64_w, i32_w]
    rfl
  refine take_ (i := 41) (N := some 64) (v := ?_) (a' := ?_) #[true, true, true, true, true, true, true, true, true, true, true, true, true, true, true, true, true, true, true, true, true, true, true, true, true, true, true, true, true, true, true, true, true, true, true, true, true, true, false, true, true, true, false, false, false, false, false, false, false] rfl rfl (take_ofW HT_.out HW_.out (by kernel_rfl)) (fun _ _ _ h => h) (Or.inl ⟨by rfl, ?_⟩) hHeld ?_ ?_
  rotate_left
  · rintro w' ⟨s0, s1, s2, s3, s4⟩
    have c_ : w'.cell? ⟨w.heap.size + 2, 1, none⟩ = some (.int .i64 a1) := (blk_cell s2 1).trans rfl
    go_simp
    with_reducible rfl
  rotate_left
  · simp only [Act.put, List.setIfInBounds_toArray, List.set_cons_zero, List.set_cons_succ, i64_w, i32_w]
    rfl
  refine one_ (i := 38) (N := some 61) #[true, true, true, true, true, true, true, true, true, true, true, true, true, true, true, true, true, true, true, true, true, true, true, true, true, true, true, true, true, true, true, true, true, true, true, true, true, true, true, true, true, true, false, false, false, false, false, false, false] rfl rfl (one_of HT_.out (by kernel_rfl)) (by decide) (fun K hK => ?_)
  refine goes_ Try.func98 (by kernel_rfl) rfl #[.agg #[.int .i64 q0, .int .i64 q1, .int .i64 q2], .int .i64 a1] (by rfl) rfl rfl (by simp only [List.map_toArray, List.map_cons, List.map_nil]; rfl) ?_
  with_reducible refine (H9.out _).mono ?_
  rintro e u38 ⟨rfl, hb⟩
  have Ks7 : Hid (u38.heap[w.heap.size]? = some (.cells #[.int .i64 q0, .int .i64 q1, .int .i64 q2] 99 (0, 0))) := Lib.hid (blk_below (by exact Ks6.out) hb)
  have Kc7 : Hid (u38.heap[w.heap.size + 1]? = some (.cells #[.int .i64 c0, .int .i64 c1, .float .f64 c2, .int .i64 c3, .int .i64 c4, .int .i64 c5, .int .i64 c6, .int .i64 c7, .int .i64 c8, .bool c9, .bool c10] 95 (0, 0))) := Lib.hid (blk_below (by exact Kc6.out) hb)
  have Ka7 : Hid (u38.heap[w.heap.size + 2]? = some (.cells #[.int .i64 a0, .int .i64 a1] 62 (0, 0))) := Lib.hid (blk_below (by exact Ka6.out) hb)
  have Kp7 : Hid (u38.heap[gp]? = some (.cells #[.int .i64 t0, .int .i64 t1, .int .i64 t2] 99 (0, 0))) := Lib.hid (blk_below (by exact Kp6.out) hb)
  have Kr7 : Hid (u38.heap[gr]? = some (.cells #[.int .i64 t0, .int .i64 t1, .int .i64 t2] 104 (0, 0))) := Lib.hid (blk_below (by exact Kr6.out) hb)
  have BB7 : Hid (Below w.heap.size w u38) := Lib.hid (Below.trans (by exact BB6.out) (hb.mono (by have := BB6.out.size; simpa using this)))
  clear hb
  refine ⟨_, rfl, ?_⟩
  refine hK.out _ _ ⟨Ks7.out, Kc7.out, Ka7.out, Kp7.out, Kr7.out⟩ (fun hHeld => ?_)
  clear hK K
  refine norm_ (a' := ?_) ?_ ?_
  rotate_left
  · show Act.put _ (some 61) _ = _
    simp only [Act.put, List.setIfInBounds_toArray, List.set_cons_zero, List.set_cons_succ, i64_w, i32_w]
    rfl
  refine one_ (i := 42) (N := some 65) #[true, true, true, true, true, true, true, true, true, true, true, true, true, true, true, true, true, true, true, true, true, true, true, true, true, true, true, true, true, true, true, true, true, true, true, true, true, true, true, true, true, true, true, false, false, false, false, false, false] rfl rfl (one_of HT_.out (by kernel_rfl)) (by decide) (fun K hK => ?_)
  refine goes_ Try.func99 (by kernel_rfl) rfl #[.agg #[.int .i64 q0, .int .i64 q1, .int .i64 q2], .int .i64 a1] (by rfl) rfl rfl (by simp only [List.map_toArray, List.map_cons, List.map_nil]; rfl) ?_
  with_reducible refine (H10.out _).mono ?_
  rintro e u42 ⟨rfl, hb⟩
  have Ks8 : Hid (u42.heap[w.heap.size]? = some (.cells #[.int .i64 q0, .int .i64 q1, .int .i64 q2] 99 (0, 0))) := Lib.hid (blk_below (by exact Ks7.out) hb)
  have Kc8 : Hid (u42.heap[w.heap.size + 1]? = some (.cells #[.int .i64 c0, .int .i64 c1, .float .f64 c2, .int .i64 c3, .int .i64 c4, .int .i64 c5, .int .i64 c6, .int .i64 c7, .int .i64 c8, .bool c9, .bool c10] 95 (0, 0))) := Lib.hid (blk_below (by exact Kc7.out) hb)
  have Ka8 : Hid (u42.heap[w.heap.size + 2]? = some (.cells #[.int .i64 a0, .int .i64 a1] 62 (0, 0))) := Lib.hid (blk_below (by exact Ka7.out) hb)
  have Kp8 : Hid (u42.heap[gp]? = some (.cells #[.int .i64 t0, .int .i64 t1, .int .i64 t2] 99 (0, 0))) := Lib.hid (blk_below (by exact Kp7.out) hb)
  have Kr8 : Hid (u42.heap[gr]? = some (.cells #[.int .i64 t0, .int .i64 t1, .int .i64 t2] 104 (0, 0))) := Lib.hid (blk_below (by exact Kr7.out) hb)
  have BB8 : Hid (Below w.heap.size w u42) := Lib.hid (Below.trans (by exact BB7.out) (hb.mono (by have := BB7.out.size; simpa using this)))
  clear hb
  refine ⟨_, rfl, ?_⟩
  refine hK.out _ _ ⟨Ks8.out, Kc8.out, Ka8.out, Kp8.out, Kr8.out⟩ (fun hHeld => ?_)
  clear hK K
  refine norm_ (a' := ?_) ?_ ?_
  rotate_left
  · show Act.put _ (some 65) _ = _
    simp only [Act.put, List.setIfInBounds_toArray, List.set_cons_zero, List.set_cons_succ, i64_w, i32_w]
    rfl
  refine pure_ (i := 43) (N := some 66) (v := ?_) (a' := ?_) #[true, true, true, true, true, true, true, true, true, true, true, true, true, true, true, true, true, true, true, true, true, true, true, true, true, true, true, true, true, true, true, true, true, true, true, true, true, true, true, true, true, true, true, true, false, false, false, false, false] rfl rfl (any_of HT_.out (by kernel_rfl)) (fun _ _ _ h => h) (Or.inl ⟨by rfl, ?_⟩) ?_ ?_
  rotate_left
  · intro w'
    go_simp
    with_reducible rfl
  rotate_left
  · simp only [Act.put, List.setIfInBounds_toArray, List.set_cons_zero, List.set_cons_succ, i64_w, i32_w]
    rfl
  refine pure_ (i := 44) (N := some 67) (v := ?_) (a' := ?_) #[true, true, true, true, true, true, true, true, true, true, true, true, true, true, true, true, true, true, true, true, true, true, true, true, true, true, true, true, true, true, true, true, true, true, true, true, true, true, true, true, true, true, true, true, true, false, false, false, false] rfl rfl (any_of HT_.out (by kernel_rfl)) (fun _ _ _ h => h) (Or.inl ⟨by rfl, ?_⟩) ?_ ?_
  rotate_left
  · intro w'
    go_simp
    with_reducible rfl
  rotate_left
  · simp only [Act.put, List.setIfInBounds_toArray, List.set_cons_zero, List.set_cons_succ, i64_w, i32_w]
    rfl
  refine pure_ (i := 45) (N := some 68) (v := ?_) (a' := ?_) #[true, true, true, true, true, true, true, true, true, true, true, true, true, true, true, true, true, true, true, true, true, true, true, true, true, true, true, true, true, true, true, true, true, true, true, true, true, true, true, true, true, true, true, true, true, true, false, false, false] rfl rfl (any_of HT_.out (by kernel_rfl)) (fun _ _ _ h => h) (Or.inl ⟨by rfl, ?_⟩) ?_ ?_
  rotate_left
  · intro w'
    go_simp
    with_reducible rfl
  rotate_left
  · simp only [Act.put, List.setIfInBounds_toArray, List.set_cons_zero, List.set_cons_succ, i64_w, i32_w]
    rfl
  refine one_ (i := 46) (N := some 69) #[true, true, true, true, true, true, true, true, true, true, true, true, true, true, true, true, true, true, true, true, true, true, true, true, true, true, true, true, true, true, true, true, true, true, true, true, true, true, true, true, true, true, true, true, true, true, true, false, false] rfl rfl (one_of HT_.out (by kernel_rfl)) (by decide) (fun K hK => ?_)
  refine goes_ Try.func87 (by kernel_rfl) rfl #[] (by rfl) rfl rfl (by first | rfl | (simp; done)) ?_
  with_reducible refine (H11.out _).mono ?_
  rintro e u46 ⟨rfl, hb⟩
  have Ks9 : Hid (u46.heap[w.heap.size]? = some (.cells #[.int .i64 q0, .int .i64 q1, .int .i64 q2] 99 (0, 0))) := Lib.hid (blk_below (by exact Ks8.out) hb)
  have Kc9 : Hid (u46.heap[w.heap.size + 1]? = some (.cells #[.int .i64 c0, .int .i64 c1, .float .f64 c2, .int .i64 c3, .int .i64 c4, .int .i64 c5, .int .i64 c6, .int .i64 c7, .int .i64 c8, .bool c9, .bool c10] 95 (0, 0))) := Lib.hid (blk_below (by exact Kc8.out) hb)
  have Ka9 : Hid (u46.heap[w.heap.size + 2]? = some (.cells #[.int .i64 a0, .int .i64 a1] 62 (0, 0))) := Lib.hid (blk_below (by exact Ka8.out) hb)
  have Kp9 : Hid (u46.heap[gp]? = some (.cells #[.int .i64 t0, .int .i64 t1, .int .i64 t2] 99 (0, 0))) := Lib.hid (blk_below (by exact Kp8.out) hb)
  have Kr9 : Hid (u46.heap[gr]? = some (.cells #[.int .i64 t0, .int .i64 t1, .int .i64 t2] 104 (0, 0))) := Lib.hid (blk_below (by exact Kr8.out) hb)
  have BB9 : Hid (Below w.heap.size w u46) := Lib.hid (Below.trans (by exact BB8.out) (hb.mono (by have := BB8.out.size; simpa using this)))
  clear hb
  refine ⟨_, rfl, ?_⟩
  refine hK.out _ _ ⟨Ks9.out, Kc9.out, Ka9.out, Kp9.out, Kr9.out⟩ (fun hHeld => ?_)
  clear hK K
  refine norm_ (a' := ?_) ?_ ?_
  rotate_left
  · show Act.put _ (some 69) _ = _
    simp only [Act.put, List.setIfInBounds_toArray, List.set_cons_zero, List.set_cons_succ, i64_w, i32_w]
    rfl
  refine pure_ (i := 47) (N := some 70) (v := ?_) (a' := ?_) #[true, true, true, true, true, true, true, true, true, true, true, true, true, true, true, true, true, true, true, true, true, true, true, true, true, true, true, true, true, true, true, true, true, true, true, true, true, true, true, true, true, true, true, true, true, true, true, true, false] rfl rfl (any_of HT_.out (by kernel_rfl)) (fun _ _ _ h => h) (Or.inl ⟨by rfl, ?_⟩) ?_ ?_
  rotate_left
  · intro w'
    go_simp
    with_reducible rfl
  rotate_left
  · simp only [Act.put, List.setIfInBounds_toArray, List.set_cons_zero, List.set_cons_succ, i64_w, i32_w]
    rfl
  refine pure_ (i := 48) (N := some 6) (v := ?_) (a' := ?_) #[true, true, true, true, true, true, true, true, true, true, true, true, true, true, true, true, true, true, true, true, true, true, true, true, true, true, true, true, true, true, true, true, true, true, true, true, true, true, true, true, true, true, true, true, true, true, true, true, true] rfl rfl (any_of HT_.out (by kernel_rfl)) (fun _ _ _ h => h) (Or.inl ⟨by rfl, ?_⟩) ?_ ?_
  rotate_left
  · intro w'
    go_simp
    with_reducible rfl
  rotate_left
  · simp only [Act.put, List.setIfInBounds_toArray, List.set_cons_zero, List.set_cons_succ, i64_w, i32_w]
    rfl
  refine done_ (done_of HT_.out (by kernel_rfl)) ?_
  go_wp2
  go_ret
  exact ⟨rfl, BB9.out⟩
end Go.Proofs.Ytclfambjkolckaa.IdleTW
