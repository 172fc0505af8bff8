/- The examples of chapter 25. -/
import Derived.Test.YtclfambjkolckaaWTab
import Derived.Test.YtclfambjkolckaaWMore
import Derived.Lib.Hide
import Derived.Laws.Tables
import Derived.Laws.CopyOwn
import Derived.Great.BuildSlice
import Derived.Test.YtclfambjkolckaaLd
import Derived.Test.YtclfambjkolckaaProg
namespace Go.Proofs.Ytclfambjkolckaa.IdleLives
open Go Go.RowKit Go.Proofs.Ytclfambjkolckaa.Ld Go.Proofs.YtclfambjkolckaaW.PrintWords Go.Proofs.YtclfambjkolckaaW.PrintLast Go.Proofs.YtclfambjkolckaaW.PrintMore
set_option linter.unusedVariables false
set_option linter.unusedSimpArgs false
theorem info_o : (Try.prog.info? 99).map (·.size) = some 3 := by kernel_rfl
theorem info_c : (Try.prog.info? 95).map (·.size) = some 11 := by kernel_rfl
def rgnlives.T2 : Bool × List (List Nat × List Nat) := (true, [([], []), ([0], [0]), ([], []), ([1, 2, 1], [1, 2]), ([], []), ([4, 3, 3, 0, 1, 2, 3, 4], [3, 4])])
def rgnlives.B2 : List Nat := [0, 1, 0, 7, 0, 31]
theorem rgnlives.tab2 : rtab .any (opsOf Try.f87 2) = rgnlives.T2 := by kernel_rfl
theorem rgnlives.bits2 : waitsOk rgnlives.T2.2 rgnlives.B2 = true := by kernel_rfl
set_option maxRecDepth 100000 in
set_option maxHeartbeats 4000000 in
theorem lives_way (w : World)
    (h1 : ∀ w, Calls Try.prog 90 #[.agg #[.int .i64 1, .int .i64 0, .float .f64 4607182418800017408, .int .i64 0, .int .i64 1, .int .i64 1, .int .i64 1, .int .i64 (-100), .int .i64 0, .bool false, .bool false], .int .i64 0] w fun e w' => e = .returned (.agg #[.int .i64 0, .int .i64 0, .int .i64 0]) ∧ Below w.heap.size w w')
    (h2 : ∀ w, Calls Try.prog 89 #[.agg #[.int .i64 0, .int .i64 0, .int .i64 0], .agg #[.int .i64 1, .int .i64 0, .float .f64 4607182418800017408, .int .i64 0, .int .i64 1, .int .i64 1, .int .i64 1, .int .i64 (-100), .int .i64 0, .bool false, .bool false], .int .i64 10, .int .i64 0] w fun e w' => e = .returned (.agg #[.int .i64 0, .int .i64 (-5), .int .i64 15]) ∧ Below w.heap.size w w') :
    Calls Try.prog 87 #[] w fun e w' => e = .returned (.bool true) ∧ Below w.heap.size w w' := by
  have H1 := Lib.hid h1; have H2 := Lib.hid h2; clear h1 h2
  go_enter Try.func87, Try.ntmps87
  go_wp2_with (first | ((with_reducible refine gate_dst (N := 3) rfl ?_); refine wpList_buildTo rfl 95 _ rfl (some 3) rfl #[.int .i64 1, .int .i64 0, .float .f64 4607182418800017408, .int .i64 0, .int .i64 1, .int .i64 1, .int .i64 1, .int .i64 (-100), .int .i64 0, .bool false, .bool false] (by kernel_rfl) ?_) | (refine wpList_store_rowTo rfl 95 (.tmp 1) (.tmp 3) rfl rfl w.heap.size #[.int .i64 1, .int .i64 0, .float .f64 4607182418800017408, .int .i64 0, .int .i64 1, .int .i64 1, .int .i64 1, .int .i64 (-100), .int .i64 0, .bool false, .bool false] rfl rfl 95 #[.int .i64 0, .int .i64 0, .float .f64 0, .int .i64 0, .int .i64 0, .int .i64 0, .int .i64 0, .int .i64 0, .int .i64 0, .bool false, .bool false] (blk_new w _) info_c rfl (by simp [Value.oneCell']) ?_))
  have Kc0 : Hid (((w.alloc (.cells #[.int .i64 0, .int .i64 0, .float .f64 0, .int .i64 0, .int .i64 0, .int .i64 0, .int .i64 0, .int .i64 0, .int .i64 0, .bool false, .bool false] 95 (0, 0))).setRow w.heap.size #[.int .i64 1, .int .i64 0, .float .f64 4607182418800017408, .int .i64 0, .int .i64 1, .int .i64 1, .int .i64 1, .int .i64 (-100), .int .i64 0, .bool false, .bool false]).heap[w.heap.size]? = some (.cells #[.int .i64 1, .int .i64 0, .float .f64 4607182418800017408, .int .i64 0, .int .i64 1, .int .i64 1, .int .i64 1, .int .i64 (-100), .int .i64 0, .bool false, .bool false] 95 (0, 0))) := Lib.hid (setRow_heap _ _ _ _ 95 _ (blk_new w _))
  have BB0 : Hid (Below w.heap.size w ((w.alloc (.cells #[.int .i64 0, .int .i64 0, .float .f64 0, .int .i64 0, .int .i64 0, .int .i64 0, .int .i64 0, .int .i64 0, .int .i64 0, .bool false, .bool false] 95 (0, 0))).setRow w.heap.size #[.int .i64 1, .int .i64 0, .float .f64 4607182418800017408, .int .i64 0, .int .i64 1, .int .i64 1, .int .i64 1, .int .i64 (-100), .int .i64 0, .bool false, .bool false])) := Lib.hid (below_setRow ((Below.refl w.heap.size w).alloc (Nat.le_refl _) _) (Nat.le_refl _) _)
  revert Kc0 BB0
  generalize ((w.alloc (.cells #[.int .i64 0, .int .i64 0, .float .f64 0, .int .i64 0, .int .i64 0, .int .i64 0, .int .i64 0, .int .i64 0, .int .i64 0, .bool false, .bool false] 95 (0, 0))).setRow w.heap.size #[.int .i64 1, .int .i64 0, .float .f64 4607182418800017408, .int .i64 0, .int .i64 1, .int .i64 1, .int .i64 1, .int .i64 (-100), .int .i64 0, .bool false, .bool false]) = w0
  intro Kc0 BB0
  try simp only [Act.put]
  go_wp2_with fail
  refine start_ (n := 6) (S := fun w' => w'.heap[w.heap.size]? = some (.cells #[.int .i64 1, .int .i64 0, .float .f64 4607182418800017408, .int .i64 0, .int .i64 1, .int .i64 1, .int .i64 1, .int .i64 (-100), .int .i64 0, .bool false, .bool false] 95 (0, 0))) (ds := [5]) #[false, false, false, false, false, false] (by kernel_rfl) rfl rfl (Kc0.out) (fun hHeld => ?_)
  refine with_tabW rgnlives.tab2 rgnlives.bits2 (fun HT_ HW_ => ?_)
  have nb_ := Lib.hid (below_drew1 BB0.out); clear BB0; have BB0 := nb_; clear nb_
  have n0_ := Lib.hid (blk_drew Kc0.out); clear Kc0; have Kc0 := n0_; clear n0_
  revert Kc0 BB0 hHeld
  generalize w0.drew = wd
  intro hHeld BB0 Kc0
  refine take_ (i := 0) (N := some 4) (v := ?_) (a' := ?_) #[true, false, false, false, false, false] rfl rfl (take_ofW HT_.out HW_.out (by kernel_rfl)) (fun _ _ _ h => h) (Or.inl ⟨by rfl, ?_⟩) hHeld ?_ ?_
  rotate_left
  · intro w' s0
    exact (ldrow (P := Try.prog) 95 _ _ Try.underlying95 rfl (by exact info_c) _ _ (.tmp 1) _ rfl (by rfl) w' s0).trans (by with_reducible rfl)
  rotate_left
  · simp only [Act.put, List.setIfInBounds_toArray, List.set_cons_zero, List.set_cons_succ, i64_w, i32_w]
    rfl
  refine take_ (i := 2) (N := some 6) (v := ?_) (a' := ?_) #[true, false, true, false, false, false] rfl rfl (take_ofW HT_.out HW_.out (by kernel_rfl)) (fun _ _ _ h => h) (Or.inl ⟨by rfl, ?_⟩) hHeld ?_ ?_
  rotate_left
  · intro w' s0
    exact (ldrow (P := Try.prog) 95 _ _ Try.underlying95 rfl (by exact info_c) _ _ (.tmp 1) _ rfl (by rfl) w' s0).trans (by with_reducible rfl)
  rotate_left
  · simp only [Act.put, List.setIfInBounds_toArray, List.set_cons_zero, List.set_cons_succ, i64_w, i32_w]
    rfl
  refine join_ (σ := Nat) 1 #[true, true, true, true, true, false] (fun s => [(5, .agg #[.int .i64 0, .int .i64 0, .int .i64 0]), (7, .agg #[.int .i64 0, .int .i64 (-5), .int .i64 15]), (2, .pointer (some ⟨s, 0, none⟩))]) (fun s w' => w'.heap[w.heap.size]? = some (.cells #[.int .i64 1, .int .i64 0, .float .f64 4607182418800017408, .int .i64 0, .int .i64 1, .int .i64 1, .int .i64 1, .int .i64 (-100), .int .i64 0, .bool false, .bool false] 95 (0, 0)) ∧ w'.heap[s]? = some (.cells #[.int .i64 0, .int .i64 0, .int .i64 0] 99 (0, 0)) ∧ w.heap.size < s ∧ w.heap.size ≤ s ∧ Below w.heap.size w w') ?_ ?_
  rotate_left
  · intro hCont
    refine two_ (i := 1) (j := 4) (Ni := some 5) (Nj := some 2) #[true, true, true, false, false, false] #[true, false, true, false, true, false] rfl rfl rfl rfl (two_of HT_.out (by kernel_rfl)) (by decide) (by decide) (fun K hK => ?_) (fun K hK => ?_)
    · skip
      refine goes_ Try.func90 (by kernel_rfl) rfl #[.agg #[.int .i64 1, .int .i64 0, .float .f64 4607182418800017408, .int .i64 0, .int .i64 1, .int .i64 1, .int .i64 1, .int .i64 (-100), .int .i64 0, .bool false, .bool false], .int .i64 0] (by rfl) rfl rfl (by simp only [List.map_toArray, List.map_cons, List.map_nil]; rfl) ?_
      with_reducible refine (H1.out _).mono ?_
      rintro e u1 ⟨rfl, hb⟩
      have Kc1 : Hid (u1.heap[w.heap.size]? = some (.cells #[.int .i64 1, .int .i64 0, .float .f64 4607182418800017408, .int .i64 0, .int .i64 1, .int .i64 1, .int .i64 1, .int .i64 (-100), .int .i64 0, .bool false, .bool false] 95 (0, 0))) := Lib.hid (blk_below (by exact Kc0.out) hb)
      have BB1 : Hid (Below w.heap.size w u1) := Lib.hid (Below.trans (by exact BB0.out) (hb.mono (by have := BB0.out.size; simpa using this)))
      clear hb
      refine ⟨_, rfl, ?_⟩
      refine hK.out _ _ (Kc1.out) (fun hHeld => ?_)
      clear hK K
      refine norm_ (a' := ?_) ?_ ?_
      rotate_left
      · show Act.put _ (some 5) _ = _
        simp only [Act.put, List.setIfInBounds_toArray, List.set_cons_zero, List.set_cons_succ, i64_w, i32_w]
        rfl
      refine two_ (i := 3) (j := 4) (Ni := some 7) (Nj := some 2) #[true, true, true, true, false, false] #[true, true, true, false, true, false] rfl rfl rfl rfl (two_of HT_.out (by kernel_rfl)) (by decide) (by decide) (fun K hK => ?_) (fun K hK => ?_)
      · skip
        refine goes_ Try.func89 (by kernel_rfl) rfl #[.agg #[.int .i64 0, .int .i64 0, .int .i64 0], .agg #[.int .i64 1, .int .i64 0, .float .f64 4607182418800017408, .int .i64 0, .int .i64 1, .int .i64 1, .int .i64 1, .int .i64 (-100), .int .i64 0, .bool false, .bool false], .int .i64 10, .int .i64 0] (by rfl) rfl rfl (by simp only [List.map_toArray, List.map_cons, List.map_nil]; rfl) ?_
        with_reducible refine (H2.out _).mono ?_
        rintro e u3 ⟨rfl, hb⟩
        have Kc2 : Hid (u3.heap[w.heap.size]? = some (.cells #[.int .i64 1, .int .i64 0, .float .f64 4607182418800017408, .int .i64 0, .int .i64 1, .int .i64 1, .int .i64 1, .int .i64 (-100), .int .i64 0, .bool false, .bool false] 95 (0, 0))) := Lib.hid (blk_below (by exact Kc1.out) hb)
        have BB2 : Hid (Below w.heap.size w u3) := Lib.hid (Below.trans (by exact BB1.out) (hb.mono (by have := BB1.out.size; simpa using this)))
        clear hb
        refine ⟨_, rfl, ?_⟩
        refine hK.out _ _ (Kc2.out) (fun hHeld => ?_)
        clear hK K
        refine norm_ (a' := ?_) ?_ ?_
        rotate_left
        · show Act.put _ (some 7) _ = _
          simp only [Act.put, List.setIfInBounds_toArray, List.set_cons_zero, List.set_cons_succ, i64_w, i32_w]
          rfl
        refine one_ (i := 4) (N := some 2) #[true, true, true, true, true, false] rfl rfl (one_of HT_.out (by kernel_rfl)) (by decide) (fun K hK => ?_)
        refine value_ (w1 := ?_) (v := ?_) (by rfl) rfl ?_ ?_
        rotate_left 2
        · go_simp
          constructor
          · rfl
          · rfl
        have Kc3 : Hid ((u3.alloc (.cells #[.int .i64 0, .int .i64 0, .int .i64 0] 99 (0, 0))).heap[w.heap.size]? = some (.cells #[.int .i64 1, .int .i64 0, .float .f64 4607182418800017408, .int .i64 0, .int .i64 1, .int .i64 1, .int .i64 1, .int .i64 (-100), .int .i64 0, .bool false, .bool false] 95 (0, 0))) := Lib.hid (blk_alloc (by exact Kc2.out) _)
        have Ko3 : Hid ((u3.alloc (.cells #[.int .i64 0, .int .i64 0, .int .i64 0] 99 (0, 0))).heap[u3.heap.size]? = some (.cells #[.int .i64 0, .int .i64 0, .int .i64 0] 99 (0, 0))) := Lib.hid (new_at _ _ _ (by simp))
        have BB3 : Hid (Below w.heap.size w (u3.alloc (.cells #[.int .i64 0, .int .i64 0, .int .i64 0] 99 (0, 0)))) := Lib.hid (Below.alloc (by exact BB2.out) BB2.out.size _)
        have Lo_c : Hid (w.heap.size < u3.heap.size) := Lib.hid (by have := blk_lt Kc2.out; simpa using this)
        have Lo : Hid (w.heap.size ≤ u3.heap.size) := Lib.hid (by have := BB2.out.size; simpa using this)
        refine hK.out _ _ (Kc3.out) (fun hHeld => ?_)
        clear hK K
        refine norm_ (a' := ?_) ?_ ?_
        rotate_left
        · show Act.put _ (some 2) _ = _
          simp only [Act.put, List.setIfInBounds_toArray, List.set_cons_zero, List.set_cons_succ, i64_w, i32_w]
          rfl
        exact norm_ (by simp only [putAll, Act.put, List.setIfInBounds_toArray, List.set_cons_zero, List.set_cons_succ]) (hCont u3.heap.size _ ⟨Kc3.out, Ko3.out, Lo_c.out, Lo.out, BB3.out⟩)
      · skip
        refine value_ (w1 := ?_) (v := ?_) (by rfl) rfl ?_ ?_
        rotate_left 2
        · go_simp
          constructor
          · rfl
          · rfl
        have Kc2 : Hid ((u1.alloc (.cells #[.int .i64 0, .int .i64 0, .int .i64 0] 99 (0, 0))).heap[w.heap.size]? = some (.cells #[.int .i64 1, .int .i64 0, .float .f64 4607182418800017408, .int .i64 0, .int .i64 1, .int .i64 1, .int .i64 1, .int .i64 (-100), .int .i64 0, .bool false, .bool false] 95 (0, 0))) := Lib.hid (blk_alloc (by exact Kc1.out) _)
        have Ko2 : Hid ((u1.alloc (.cells #[.int .i64 0, .int .i64 0, .int .i64 0] 99 (0, 0))).heap[u1.heap.size]? = some (.cells #[.int .i64 0, .int .i64 0, .int .i64 0] 99 (0, 0))) := Lib.hid (new_at _ _ _ (by simp))
        have BB2 : Hid (Below w.heap.size w (u1.alloc (.cells #[.int .i64 0, .int .i64 0, .int .i64 0] 99 (0, 0)))) := Lib.hid (Below.alloc (by exact BB1.out) BB1.out.size _)
        have Lo_c : Hid (w.heap.size < u1.heap.size) := Lib.hid (by have := blk_lt Kc1.out; simpa using this)
        have Lo : Hid (w.heap.size ≤ u1.heap.size) := Lib.hid (by have := BB1.out.size; simpa using this)
        refine hK.out _ _ (Kc2.out) (fun hHeld => ?_)
        clear hK K
        refine norm_ (a' := ?_) ?_ ?_
        rotate_left
        · show Act.put _ (some 2) _ = _
          simp only [Act.put, List.setIfInBounds_toArray, List.set_cons_zero, List.set_cons_succ, i64_w, i32_w]
          rfl
        refine one_ (i := 3) (N := some 7) #[true, true, true, true, true, false] rfl rfl (one_of HT_.out (by kernel_rfl)) (by decide) (fun K hK => ?_)
        refine goes_ Try.func89 (by kernel_rfl) rfl #[.agg #[.int .i64 0, .int .i64 0, .int .i64 0], .agg #[.int .i64 1, .int .i64 0, .float .f64 4607182418800017408, .int .i64 0, .int .i64 1, .int .i64 1, .int .i64 1, .int .i64 (-100), .int .i64 0, .bool false, .bool false], .int .i64 10, .int .i64 0] (by rfl) rfl rfl (by simp only [List.map_toArray, List.map_cons, List.map_nil]; rfl) ?_
        with_reducible refine (H2.out _).mono ?_
        rintro e u3 ⟨rfl, hb⟩
        have Kc3 : Hid (u3.heap[w.heap.size]? = some (.cells #[.int .i64 1, .int .i64 0, .float .f64 4607182418800017408, .int .i64 0, .int .i64 1, .int .i64 1, .int .i64 1, .int .i64 (-100), .int .i64 0, .bool false, .bool false] 95 (0, 0))) := Lib.hid (blk_below (by exact Kc2.out) hb)
        have Ko3 : Hid (u3.heap[u1.heap.size]? = some (.cells #[.int .i64 0, .int .i64 0, .int .i64 0] 99 (0, 0))) := Lib.hid (blk_below (by exact Ko2.out) hb)
        have BB3 : Hid (Below w.heap.size w u3) := Lib.hid (Below.trans (by exact BB2.out) (hb.mono (by have := BB2.out.size; simpa using this)))
        clear hb
        refine ⟨_, rfl, ?_⟩
        refine hK.out _ _ (Kc3.out) (fun hHeld => ?_)
        clear hK K
        refine norm_ (a' := ?_) ?_ ?_
        rotate_left
        · show Act.put _ (some 7) _ = _
          simp only [Act.put, List.setIfInBounds_toArray, List.set_cons_zero, List.set_cons_succ, i64_w, i32_w]
          rfl
        exact norm_ (by simp only [putAll, Act.put, List.setIfInBounds_toArray, List.set_cons_zero, List.set_cons_succ]) (hCont u1.heap.size _ ⟨Kc3.out, Ko3.out, Lo_c.out, Lo.out, BB3.out⟩)
    · skip
      refine value_ (w1 := ?_) (v := ?_) (by rfl) rfl ?_ ?_
      rotate_left 2
      · go_simp
        constructor
        · rfl
        · rfl
      have Kc1 : Hid ((wd.alloc (.cells #[.int .i64 0, .int .i64 0, .int .i64 0] 99 (0, 0))).heap[w.heap.size]? = some (.cells #[.int .i64 1, .int .i64 0, .float .f64 4607182418800017408, .int .i64 0, .int .i64 1, .int .i64 1, .int .i64 1, .int .i64 (-100), .int .i64 0, .bool false, .bool false] 95 (0, 0))) := Lib.hid (blk_alloc (by exact Kc0.out) _)
      have Ko1 : Hid ((wd.alloc (.cells #[.int .i64 0, .int .i64 0, .int .i64 0] 99 (0, 0))).heap[wd.heap.size]? = some (.cells #[.int .i64 0, .int .i64 0, .int .i64 0] 99 (0, 0))) := Lib.hid (new_at _ _ _ (by simp))
      have BB1 : Hid (Below w.heap.size w (wd.alloc (.cells #[.int .i64 0, .int .i64 0, .int .i64 0] 99 (0, 0)))) := Lib.hid (Below.alloc (by exact BB0.out) BB0.out.size _)
      have Lo_c : Hid (w.heap.size < wd.heap.size) := Lib.hid (by have := blk_lt Kc0.out; simpa using this)
      have Lo : Hid (w.heap.size ≤ wd.heap.size) := Lib.hid (by have := BB0.out.size; simpa using this)
      refine hK.out _ _ (Kc1.out) (fun hHeld => ?_)
      clear hK K
      refine norm_ (a' := ?_) ?_ ?_
      rotate_left
      · show Act.put _ (some 2) _ = _
        simp only [Act.put, List.setIfInBounds_toArray, List.set_cons_zero, List.set_cons_succ, i64_w, i32_w]
        rfl
      refine one_ (i := 1) (N := some 5) #[true, true, true, false, true, false] rfl rfl (one_of HT_.out (by kernel_rfl)) (by decide) (fun K hK => ?_)
      refine goes_ Try.func90 (by kernel_rfl) rfl #[.agg #[.int .i64 1, .int .i64 0, .float .f64 4607182418800017408, .int .i64 0, .int .i64 1, .int .i64 1, .int .i64 1, .int .i64 (-100), .int .i64 0, .bool false, .bool false], .int .i64 0] (by rfl) rfl rfl (by simp only [List.map_toArray, List.map_cons, List.map_nil]; rfl) ?_
      with_reducible refine (H1.out _).mono ?_
      rintro e u1 ⟨rfl, hb⟩
      have Kc2 : Hid (u1.heap[w.heap.size]? = some (.cells #[.int .i64 1, .int .i64 0, .float .f64 4607182418800017408, .int .i64 0, .int .i64 1, .int .i64 1, .int .i64 1, .int .i64 (-100), .int .i64 0, .bool false, .bool false] 95 (0, 0))) := Lib.hid (blk_below (by exact Kc1.out) hb)
      have Ko2 : Hid (u1.heap[wd.heap.size]? = some (.cells #[.int .i64 0, .int .i64 0, .int .i64 0] 99 (0, 0))) := Lib.hid (blk_below (by exact Ko1.out) hb)
      have BB2 : Hid (Below w.heap.size w u1) := Lib.hid (Below.trans (by exact BB1.out) (hb.mono (by have := BB1.out.size; simpa using this)))
      clear hb
      refine ⟨_, rfl, ?_⟩
      refine hK.out _ _ (Kc2.out) (fun hHeld => ?_)
      clear hK K
      refine norm_ (a' := ?_) ?_ ?_
      rotate_left
      · show Act.put _ (some 5) _ = _
        simp only [Act.put, List.setIfInBounds_toArray, List.set_cons_zero, List.set_cons_succ, i64_w, i32_w]
        rfl
      refine one_ (i := 3) (N := some 7) #[true, true, true, true, true, false] rfl rfl (one_of HT_.out (by kernel_rfl)) (by decide) (fun K hK => ?_)
      refine goes_ Try.func89 (by kernel_rfl) rfl #[.agg #[.int .i64 0, .int .i64 0, .int .i64 0], .agg #[.int .i64 1, .int .i64 0, .float .f64 4607182418800017408, .int .i64 0, .int .i64 1, .int .i64 1, .int .i64 1, .int .i64 (-100), .int .i64 0, .bool false, .bool false], .int .i64 10, .int .i64 0] (by rfl) rfl rfl (by simp only [List.map_toArray, List.map_cons, List.map_nil]; rfl) ?_
      with_reducible refine (H2.out _).mono ?_
      rintro e u3 ⟨rfl, hb⟩
      have Kc3 : Hid (u3.heap[w.heap.size]? = some (.cells #[.int .i64 1, .int .i64 0, .float .f64 4607182418800017408, .int .i64 0, .int .i64 1, .int .i64 1, .int .i64 1, .int .i64 (-100), .int .i64 0, .bool false, .bool false] 95 (0, 0))) := Lib.hid (blk_below (by exact Kc2.out) hb)
      have Ko3 : Hid (u3.heap[wd.heap.size]? = some (.cells #[.int .i64 0, .int .i64 0, .int .i64 0] 99 (0, 0))) := Lib.hid (blk_below (by exact Ko2.out) hb)
      have BB3 : Hid (Below w.heap.size w u3) := Lib.hid (Below.trans (by exact BB2.out) (hb.mono (by have := BB2.out.size; simpa using this)))
      clear hb
      refine ⟨_, rfl, ?_⟩
      refine hK.out _ _ (Kc3.out) (fun hHeld => ?_)
      clear hK K
      refine norm_ (a' := ?_) ?_ ?_
      rotate_left
      · show Act.put _ (some 7) _ = _
        simp only [Act.put, List.setIfInBounds_toArray, List.set_cons_zero, List.set_cons_succ, i64_w, i32_w]
        rfl
      exact norm_ (by simp only [putAll, Act.put, List.setIfInBounds_toArray, List.set_cons_zero, List.set_cons_succ]) (hCont wd.heap.size _ ⟨Kc3.out, Ko3.out, Lo_c.out, Lo.out, BB3.out⟩)
  rintro go wj ⟨s0, ko, lo_c, lo, bj⟩
  have Ko := Lib.hid ko; have Lo_c := Lib.hid lo_c; have Lo := Lib.hid lo; have BJ := Lib.hid bj; have Kcj := Lib.hid s0
  clear ko lo_c lo bj
  have hHeld : wj.heap[w.heap.size]? = some (.cells #[.int .i64 1, .int .i64 0, .float .f64 4607182418800017408, .int .i64 0, .int .i64 1, .int .i64 1, .int .i64 1, .int .i64 (-100), .int .i64 0, .bool false, .bool false] 95 (0, 0)) := s0
  clear s0
  refine norm_ (a' := ?_) ?_ ?_
  rotate_left
  · simp only [putAll, Act.put, List.setIfInBounds_toArray, List.set_cons_zero, List.set_cons_succ]
    rfl
  refine last_ (i := 5) (N := none) #[true, true, true, true, true, true] rfl rfl (one_of HT_.out (by kernel_rfl)) (by decide) (fun K hK => ?_)
  rw [if_pos (by rfl)]
  refine wp_store_row 99 (.tmp 2) (.tmp 7) rfl go #[.int .i64 0, .int .i64 (-5), .int .i64 15] rfl rfl 99 _ Ko.out (by exact info_o) (by rfl) (by simp [Value.oneCell']) ?_
  refine hK.out _ _ ?_
  clear hK K
  refine done_ (done_of HT_.out (by kernel_rfl)) ?_
  have Kz : Hid ((wj.setRow go #[.int .i64 0, .int .i64 (-5), .int .i64 15]).heap[go]? = some (.cells #[.int .i64 0, .int .i64 (-5), .int .i64 15] 99 (0, 0))) := Lib.hid (setRow_heap _ go _ _ 99 _ Ko.out)
  have BZ : Hid (Below w.heap.size w (wj.setRow go #[.int .i64 0, .int .i64 (-5), .int .i64 15])) := Lib.hid (below_setRow BJ.out Lo.out _)
  revert Kz BZ
  generalize (wj.setRow go #[.int .i64 0, .int .i64 (-5), .int .i64 15]) = wz
  intro Kz BZ
  try simp only [Act.put]
  have c0 : wz.cell? ⟨go, 0, none⟩ = some (.int .i64 0) := (blk_cell Kz.out 0).trans rfl
  have c1 : wz.cell? ⟨go, 1, none⟩ = some (.int .i64 (-5)) := (blk_cell Kz.out 1).trans rfl
  have c2 : wz.cell? ⟨go, 2, none⟩ = some (.int .i64 15) := (blk_cell Kz.out 2).trans rfl
  go_wp2_with ((with_reducible refine gate_dst (N := 9) rfl ?_); refine wpList_buildTo rfl 99 _ rfl (some 9) rfl #[.int .i64 0, .int .i64 (-5), .int .i64 15] (by kernel_rfl) ?_)
  go_ret
  exact ⟨rfl, BZ.out⟩
end Go.Proofs.Ytclfambjkolckaa.IdleLives
