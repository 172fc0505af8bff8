/- The law IdlePaced, walked. -/
import Derived.Test.YtclfambjkolckaaPaced
namespace Go.Proofs.Ytclfambjkolckaa.IdlePW
open Go Go.RowKit Go.Proofs.Ytclfambjkolckaa.Ld Go.Proofs.Ytclfambjkolckaa.Paced Go.Proofs.YtclfambjkolckaaW.PrintWords Go.Proofs.YtclfambjkolckaaW.PrintLast Go.Proofs.YtclfambjkolckaaW.PrintMore
set_option linter.unusedVariables false
set_option linter.unusedSimpArgs false
theorem info_s : (Try.prog.info? 99).map (·.size) = some 3 := by kernel_rfl
theorem info_p : (Try.prog.info? 99).map (·.size) = some 3 := by kernel_rfl
theorem info_r : (Try.prog.info? 104).map (·.size) = some 3 := by kernel_rfl
theorem info_c : (Try.prog.info? 95).map (·.size) = some 11 := by kernel_rfl
def rgnIdlePaced.T3 : Bool × List (List Nat × List Nat) := (true, [([], []), ([0], [0]), ([], []), ([2, 1], [2]), ([], []), ([], []), ([4, 1, 3, 0, 1, 4, 5], [1, 4]), ([5, 3, 6, 0, 1, 2, 3, 4, 5, 6], [3, 5])])
def rgnIdlePaced.B3 : List Nat := [0, 1, 0, 7, 0, 0, 63, 127]
theorem rgnIdlePaced.tab3 : rtab .any (opsOf Try.f14 3) = rgnIdlePaced.T3 := by kernel_rfl
theorem rgnIdlePaced.bits3 : waitsOk rgnIdlePaced.T3.2 rgnIdlePaced.B3 = true := by kernel_rfl
def rgnIdlePaced.T9 : Bool × List (List Nat × List Nat) := (true, [([], []), ([], []), ([], []), ([], []), ([0, 1, 2, 3], [0, 1, 2, 3]), ([], []), ([4, 5], [4, 5]), ([6, 4], [6]), ([7, 7], [7]), ([7, 8], [7, 8]), ([9, 8, 0, 1, 2, 3, 4, 5, 6, 7, 8, 9], [9])])
def rgnIdlePaced.B9 : List Nat := [0, 0, 0, 0, 15, 0, 63, 127, 255, 511, 1023]
theorem rgnIdlePaced.tab9 : rtab .any (opsOf Try.f14 9) = rgnIdlePaced.T9 := by kernel_rfl
theorem rgnIdlePaced.bits9 : waitsOk rgnIdlePaced.T9.2 rgnIdlePaced.B9 = true := by kernel_rfl
set_option maxRecDepth 100000 in
theorem paced_long (c0 c1 : Int) (c2 : Nat) (c3 c4 c5 c6 c7 c8 : Int) (c9 c10 : Bool) (time : Int) (a : Option Addr) (l : List Int) (cap : Nat) (w : World) (hlen : 50 < l.length)
    (hl : ∀ w, Calls Try.prog 87 #[] w fun e w' => e = .returned (.bool true) ∧ Below w.heap.size w w') :
    Calls Try.prog 14 #[.agg #[.int .i64 c0, .int .i64 c1, .float .f64 c2, .int .i64 c3, .int .i64 c4, .int .i64 c5, .int .i64 c6, .int .i64 c7, .int .i64 c8, .bool c9, .bool c10], .int .i64 time, .slice a l.length cap] w fun e w' => e = .returned (.bool true) ∧ Below w.heap.size w w' := by
  have HL := Lib.hid hl; clear hl
  go_enter Try.func14, Try.ntmps14
  go_wp2_with ((with_reducible refine (HL.out _).mono ?_); rintro e w1 ⟨rfl, hb⟩)
  go_ret
  exact ⟨rfl, ((Below.refl _ _).alloc (Nat.le_refl _) _).trans (hb.mono (by simp))⟩
set_option maxRecDepth 100000 in
set_option maxHeartbeats 8000000 in
theorem paced_way (F : Int × Int × Int → Int → Int × Int × Int) (n : Int × Int × Int) (c0 c1 : Int) (c2 : Nat) (c3 c4 c5 c6 c7 c8 : Int) (c9 c10 : Bool) (time : Int) (a : Option Addr) (l : List Int) (cap : Nat) (w : World) (hlen : l.length ≤ 50) (hr : Kd.C (Kd.int .i64) w a l.length l)
    (h1 : ∀ w, Calls Try.prog 90 #[.agg #[.int .i64 c0, .int .i64 c1, .float .f64 c2, .int .i64 c3, .int .i64 c4, .int .i64 c5, .int .i64 c6, .int .i64 c7, .int .i64 c8, .bool c9, .bool c10], .int .i64 0] w fun e w' => e = .returned (.agg #[.int .i64 (n).1, .int .i64 (n).2.1, .int .i64 (n).2.2]) ∧ Below w.heap.size w w')
    (h2 : ∀ w, Calls Try.prog 92 #[.agg #[.int .i64 c0, .int .i64 c1, .float .f64 c2, .int .i64 c3, .int .i64 c4, .int .i64 c5, .int .i64 c6, .int .i64 c7, .int .i64 c8, .bool c9, .bool c10], .int .i64 0] w fun e w' => e = .returned (.agg #[.int .i64 (n).1, .int .i64 (n).2.1, .int .i64 (n).2.2]) ∧ Below w.heap.size w w')
    (hs : ∀ (s : Int × Int × Int) (now : Int) (w : World), Calls Try.prog 93 #[.agg #[.int .i64 (s).1, .int .i64 (s).2.1, .int .i64 (s).2.2], .agg #[.int .i64 c0, .int .i64 c1, .float .f64 c2, .int .i64 c3, .int .i64 c4, .int .i64 c5, .int .i64 c6, .int .i64 c7, .int .i64 c8, .bool c9, .bool c10], .int .i64 time, .int .i64 now] w fun e w' => e = .returned (.agg #[.int .i64 (F s now).1, .int .i64 (F s now).2.1, .int .i64 (F s now).2.2]) ∧ Below w.heap.size w w')
    (hp : ∀ W, Below w.heap.size w W → Calls Try.prog 94 #[.agg #[.int .i64 (n).1, .int .i64 (n).2.1, .int .i64 (n).2.2], .agg #[.int .i64 c0, .int .i64 c1, .float .f64 c2, .int .i64 c3, .int .i64 c4, .int .i64 c5, .int .i64 c6, .int .i64 c7, .int .i64 c8, .bool c9, .bool c10], .int .i64 time, .slice a l.length cap] W fun e w' => e = .returned (.agg #[.int .i64 (fst F n l).1, .int .i64 (fst F n l).2.1, .int .i64 (fst F n l).2.2]) ∧ Below W.heap.size W w')
    (hl : ∀ w, Calls Try.prog 87 #[] w fun e w' => e = .returned (.bool true) ∧ Below w.heap.size w w') :
    Calls Try.prog 14 #[.agg #[.int .i64 c0, .int .i64 c1, .float .f64 c2, .int .i64 c3, .int .i64 c4, .int .i64 c5, .int .i64 c6, .int .i64 c7, .int .i64 c8, .bool c9, .bool c10], .int .i64 time, .slice a l.length cap] w fun e w' => e = .returned (.bool true) ∧ Below w.heap.size w w' := by
  have H1 := Lib.hid h1; have H2 := Lib.hid h2; have HS := Lib.hid hs; have HP := Lib.hid hp; have HL := Lib.hid hl; have HR := Lib.hid hr; clear h1 h2 hs hp hl hr
  have HN := Lib.hid (fst_snoc F n l)
  go_enter Try.func14, Try.ntmps14
  go_wp2_with fail
  have Kc0 : Hid ((w.alloc (.cells #[.int .i64 c0, .int .i64 c1, .float .f64 c2, .int .i64 c3, .int .i64 c4, .int .i64 c5, .int .i64 c6, .int .i64 c7, .int .i64 c8, .bool c9, .bool c10] 95 (0, 0))).heap[w.heap.size]? = some (.cells #[.int .i64 c0, .int .i64 c1, .float .f64 c2, .int .i64 c3, .int .i64 c4, .int .i64 c5, .int .i64 c6, .int .i64 c7, .int .i64 c8, .bool c9, .bool c10] 95 (0, 0))) := Lib.hid (blk_new w _)
  have BB0 : Hid (Below w.heap.size w (w.alloc (.cells #[.int .i64 c0, .int .i64 c1, .float .f64 c2, .int .i64 c3, .int .i64 c4, .int .i64 c5, .int .i64 c6, .int .i64 c7, .int .i64 c8, .bool c9, .bool c10] 95 (0, 0)))) := Lib.hid ((Below.refl w.heap.size w).alloc (Nat.le_refl _) _)
  revert Kc0 BB0
  generalize w.alloc (.cells #[.int .i64 c0, .int .i64 c1, .float .f64 c2, .int .i64 c3, .int .i64 c4, .int .i64 c5, .int .i64 c6, .int .i64 c7, .int .i64 c8, .bool c9, .bool c10] 95 (0, 0)) = w0
  intro Kc0 BB0
  refine start_ (n := 8) (S := fun w' => w'.heap[w.heap.size]? = some (.cells #[.int .i64 c0, .int .i64 c1, .float .f64 c2, .int .i64 c3, .int .i64 c4, .int .i64 c5, .int .i64 c6, .int .i64 c7, .int .i64 c8, .bool c9, .bool c10] 95 (0, 0))) (ds := [6, 7]) #[false, false, false, false, false, false, false, false] (by kernel_rfl) rfl rfl (Kc0.out) (fun hHeld => ?_)
  refine with_tabW rgnIdlePaced.tab3 rgnIdlePaced.bits3 (fun HT_ HW_ => ?_)
  have nb_ := Lib.hid (below_drew1 BB0.out); clear BB0; have BB0 := nb_; clear nb_
  have n0_ := Lib.hid (blk_drew Kc0.out); clear Kc0; have Kc0 := n0_; clear n0_
  revert Kc0 BB0 hHeld
  generalize w0.drew = wd
  intro hHeld BB0 Kc0
  refine take_ (i := 0) (N := some 15) (v := ?_) (a' := ?_) #[true, false, false, false, false, false, false, false] rfl rfl (take_ofW HT_.out HW_.out (by kernel_rfl)) (fun _ _ _ h => h) (Or.inl ⟨by rfl, ?_⟩) hHeld ?_ ?_
  rotate_left
  · intro w' s0
    exact (ldrow (P := Try.prog) 95 _ _ Try.underlying95 rfl (by exact info_c) _ _ (.tmp 3) _ rfl (by rfl) w' s0).trans (by with_reducible rfl)
  rotate_left
  · simp only [Act.put, List.setIfInBounds_toArray, List.set_cons_zero, List.set_cons_succ, i64_w, i32_w]
    rfl
  refine take_ (i := 2) (N := some 17) (v := ?_) (a' := ?_) #[true, false, true, false, false, false, false, false] rfl rfl (take_ofW HT_.out HW_.out (by kernel_rfl)) (fun _ _ _ h => h) (Or.inl ⟨by rfl, ?_⟩) hHeld ?_ ?_
  rotate_left
  · intro w' s0
    exact (ldrow (P := Try.prog) 95 _ _ Try.underlying95 rfl (by exact info_c) _ _ (.tmp 3) _ rfl (by rfl) w' s0).trans (by with_reducible rfl)
  rotate_left
  · simp only [Act.put, List.setIfInBounds_toArray, List.set_cons_zero, List.set_cons_succ, i64_w, i32_w]
    rfl
  refine join_ (σ := Nat × Nat) 2 #[true, true, true, true, true, true, false, false] (fun s => [(16, .agg #[.int .i64 (n).1, .int .i64 (n).2.1, .int .i64 (n).2.2]), (18, .agg #[.int .i64 (n).1, .int .i64 (n).2.1, .int .i64 (n).2.2]), (7, .pointer (some ⟨s.1, 0, none⟩)), (8, .pointer (some ⟨s.2, 0, none⟩))]) (fun s w' => w'.heap[w.heap.size]? = some (.cells #[.int .i64 c0, .int .i64 c1, .float .f64 c2, .int .i64 c3, .int .i64 c4, .int .i64 c5, .int .i64 c6, .int .i64 c7, .int .i64 c8, .bool c9, .bool c10] 95 (0, 0)) ∧ w'.heap[s.1]? = some (.cells #[.int .i64 0, .int .i64 0, .int .i64 0] 99 (0, 0)) ∧ w'.heap[s.2]? = some (.cells #[.int .i64 0, .int .i64 0, .int .i64 0] 104 (0, 0)) ∧ w.heap.size < s.1 ∧ w.heap.size < s.2 ∧ w.heap.size ≤ s.1 ∧ w.heap.size ≤ s.2 ∧ s.1 ≠ s.2 ∧ s.2 ≠ s.1 ∧ Below w.heap.size w w') ?_ ?_
  rotate_left
  · intro hCont
    refine three_ (i := 1) (j := 4) (k := 5) (Ni := some 16) (Nj := some 7) (Nk := some 8) #[true, true, true, false, false, false, false, false] #[true, false, true, false, true, false, false, false] #[true, false, true, false, false, true, false, false] rfl rfl rfl rfl rfl rfl (three_of HT_.out (by kernel_rfl)) (by decide) (by decide) (by decide) (fun K hK => ?_) (fun K hK => ?_) (fun K hK => ?_)
    · skip
      refine goes_ Try.func90 (by kernel_rfl) rfl #[.agg #[.int .i64 c0, .int .i64 c1, .float .f64 c2, .int .i64 c3, .int .i64 c4, .int .i64 c5, .int .i64 c6, .int .i64 c7, .int .i64 c8, .bool c9, .bool c10], .int .i64 0] (by rfl) rfl rfl (by simp only [List.map_toArray, List.map_cons, List.map_nil]; rfl) ?_
      with_reducible refine (H1.out _).mono ?_
      rintro e u1 ⟨rfl, hb⟩
      have Kc1 : Hid (u1.heap[w.heap.size]? = some (.cells #[.int .i64 c0, .int .i64 c1, .float .f64 c2, .int .i64 c3, .int .i64 c4, .int .i64 c5, .int .i64 c6, .int .i64 c7, .int .i64 c8, .bool c9, .bool c10] 95 (0, 0))) := Lib.hid (blk_below (by exact Kc0.out) hb)
      have BB1 : Hid (Below w.heap.size w u1) := Lib.hid (Below.trans (by exact BB0.out) (hb.mono (by have := BB0.out.size; simpa using this)))
      clear hb
      refine ⟨_, rfl, ?_⟩
      refine hK.out _ _ (Kc1.out) (fun hHeld => ?_)
      clear hK K
      refine norm_ (a' := ?_) ?_ ?_
      rotate_left
      · show Act.put _ (some 16) _ = _
        simp only [Act.put, List.setIfInBounds_toArray, List.set_cons_zero, List.set_cons_succ, i64_w, i32_w]
        rfl
      refine three_ (i := 3) (j := 4) (k := 5) (Ni := some 18) (Nj := some 7) (Nk := some 8) #[true, true, true, true, false, false, false, false] #[true, true, true, false, true, false, false, false] #[true, true, true, false, false, true, false, false] rfl rfl rfl rfl rfl rfl (three_of HT_.out (by kernel_rfl)) (by decide) (by decide) (by decide) (fun K hK => ?_) (fun K hK => ?_) (fun K hK => ?_)
      · skip
        refine goes_ Try.func92 (by kernel_rfl) rfl #[.agg #[.int .i64 c0, .int .i64 c1, .float .f64 c2, .int .i64 c3, .int .i64 c4, .int .i64 c5, .int .i64 c6, .int .i64 c7, .int .i64 c8, .bool c9, .bool c10], .int .i64 0] (by rfl) rfl rfl (by simp only [List.map_toArray, List.map_cons, List.map_nil]; rfl) ?_
        with_reducible refine (H2.out _).mono ?_
        rintro e u3 ⟨rfl, hb⟩
        have Kc2 : Hid (u3.heap[w.heap.size]? = some (.cells #[.int .i64 c0, .int .i64 c1, .float .f64 c2, .int .i64 c3, .int .i64 c4, .int .i64 c5, .int .i64 c6, .int .i64 c7, .int .i64 c8, .bool c9, .bool c10] 95 (0, 0))) := Lib.hid (blk_below (by exact Kc1.out) hb)
        have BB2 : Hid (Below w.heap.size w u3) := Lib.hid (Below.trans (by exact BB1.out) (hb.mono (by have := BB1.out.size; simpa using this)))
        clear hb
        refine ⟨_, rfl, ?_⟩
        refine hK.out _ _ (Kc2.out) (fun hHeld => ?_)
        clear hK K
        refine norm_ (a' := ?_) ?_ ?_
        rotate_left
        · show Act.put _ (some 18) _ = _
          simp only [Act.put, List.setIfInBounds_toArray, List.set_cons_zero, List.set_cons_succ, i64_w, i32_w]
          rfl
        refine two_ (i := 4) (j := 5) (Ni := some 7) (Nj := some 8) #[true, true, true, true, true, false, false, false] #[true, true, true, true, false, true, false, false] rfl rfl rfl rfl (two_of HT_.out (by kernel_rfl)) (by decide) (by decide) (fun K hK => ?_) (fun K hK => ?_)
        · skip
          refine value_ (w1 := ?_) (v := ?_) (by rfl) rfl ?_ ?_
          rotate_left 2
          · go_simp
            constructor
            · rfl
            · rfl
          have Kc3 : Hid ((u3.alloc (.cells #[.int .i64 0, .int .i64 0, .int .i64 0] 99 (0, 0))).heap[w.heap.size]? = some (.cells #[.int .i64 c0, .int .i64 c1, .float .f64 c2, .int .i64 c3, .int .i64 c4, .int .i64 c5, .int .i64 c6, .int .i64 c7, .int .i64 c8, .bool c9, .bool c10] 95 (0, 0))) := Lib.hid (blk_alloc (by exact Kc2.out) _)
          have Kp3 : Hid ((u3.alloc (.cells #[.int .i64 0, .int .i64 0, .int .i64 0] 99 (0, 0))).heap[u3.heap.size]? = some (.cells #[.int .i64 0, .int .i64 0, .int .i64 0] 99 (0, 0))) := Lib.hid (new_at _ _ _ (by simp))
          have BB3 : Hid (Below w.heap.size w (u3.alloc (.cells #[.int .i64 0, .int .i64 0, .int .i64 0] 99 (0, 0)))) := Lib.hid (Below.alloc (by exact BB2.out) BB2.out.size _)
          have Lp_c : Hid (w.heap.size < u3.heap.size) := Lib.hid (by have := blk_lt Kc2.out; simpa using this)
          have Lp : Hid (w.heap.size ≤ u3.heap.size) := Lib.hid (by have := BB2.out.size; simpa using this)
          refine hK.out _ _ (Kc3.out) (fun hHeld => ?_)
          clear hK K
          refine norm_ (a' := ?_) ?_ ?_
          rotate_left
          · show Act.put _ (some 7) _ = _
            simp only [Act.put, List.setIfInBounds_toArray, List.set_cons_zero, List.set_cons_succ, i64_w, i32_w]
            rfl
          refine one_ (i := 5) (N := some 8) #[true, true, true, true, true, true, false, false] rfl rfl (one_of HT_.out (by kernel_rfl)) (by decide) (fun K hK => ?_)
          refine value_ (w1 := ?_) (v := ?_) (by rfl) rfl ?_ ?_
          rotate_left 2
          · go_simp
            constructor
            · rfl
            · rfl
          have Kc4 : Hid (((u3.alloc (.cells #[.int .i64 0, .int .i64 0, .int .i64 0] 99 (0, 0))).alloc (.cells #[.int .i64 0, .int .i64 0, .int .i64 0] 104 (0, 0))).heap[w.heap.size]? = some (.cells #[.int .i64 c0, .int .i64 c1, .float .f64 c2, .int .i64 c3, .int .i64 c4, .int .i64 c5, .int .i64 c6, .int .i64 c7, .int .i64 c8, .bool c9, .bool c10] 95 (0, 0))) := Lib.hid (blk_alloc (by exact Kc3.out) _)
          have Kp4 : Hid (((u3.alloc (.cells #[.int .i64 0, .int .i64 0, .int .i64 0] 99 (0, 0))).alloc (.cells #[.int .i64 0, .int .i64 0, .int .i64 0] 104 (0, 0))).heap[u3.heap.size]? = some (.cells #[.int .i64 0, .int .i64 0, .int .i64 0] 99 (0, 0))) := Lib.hid (blk_alloc (by exact Kp3.out) _)
          have Kr4 : Hid (((u3.alloc (.cells #[.int .i64 0, .int .i64 0, .int .i64 0] 99 (0, 0))).alloc (.cells #[.int .i64 0, .int .i64 0, .int .i64 0] 104 (0, 0))).heap[u3.heap.size + 1]? = some (.cells #[.int .i64 0, .int .i64 0, .int .i64 0] 104 (0, 0))) := Lib.hid (new_at _ _ _ (by simp))
          have BB4 : Hid (Below w.heap.size w ((u3.alloc (.cells #[.int .i64 0, .int .i64 0, .int .i64 0] 99 (0, 0))).alloc (.cells #[.int .i64 0, .int .i64 0, .int .i64 0] 104 (0, 0)))) := Lib.hid (Below.alloc (by exact BB3.out) BB3.out.size _)
          have Lr_c : Hid (w.heap.size < u3.heap.size + 1) := Lib.hid (by have := blk_lt Kc3.out; simpa using this)
          have Lr : Hid (w.heap.size ≤ u3.heap.size + 1) := Lib.hid (by have := BB3.out.size; simpa using this)
          have Nr_p : Hid (u3.heap.size + 1 ≠ u3.heap.size) := Lib.hid (by have := blk_lt Kp3.out; simp at this ⊢ <;> omega)
          have Np_r : Hid (u3.heap.size ≠ u3.heap.size + 1) := Lib.hid (Ne.symm Nr_p.out)
          refine hK.out _ _ (Kc4.out) (fun hHeld => ?_)
          clear hK K
          refine norm_ (a' := ?_) ?_ ?_
          rotate_left
          · show Act.put _ (some 8) _ = _
            simp only [Act.put, List.setIfInBounds_toArray, List.set_cons_zero, List.set_cons_succ, i64_w, i32_w]
            rfl
          exact norm_ (by simp only [putAll, Act.put, List.setIfInBounds_toArray, List.set_cons_zero, List.set_cons_succ]) (hCont (u3.heap.size, u3.heap.size + 1) _ ⟨Kc4.out, Kp4.out, Kr4.out, Lp_c.out, Lr_c.out, Lp.out, Lr.out, Np_r.out, Nr_p.out, BB4.out⟩)
        · skip
          refine value_ (w1 := ?_) (v := ?_) (by rfl) rfl ?_ ?_
          rotate_left 2
          · go_simp
            constructor
            · rfl
            · rfl
          have Kc3 : Hid ((u3.alloc (.cells #[.int .i64 0, .int .i64 0, .int .i64 0] 104 (0, 0))).heap[w.heap.size]? = some (.cells #[.int .i64 c0, .int .i64 c1, .float .f64 c2, .int .i64 c3, .int .i64 c4, .int .i64 c5, .int .i64 c6, .int .i64 c7, .int .i64 c8, .bool c9, .bool c10] 95 (0, 0))) := Lib.hid (blk_alloc (by exact Kc2.out) _)
          have Kr3 : Hid ((u3.alloc (.cells #[.int .i64 0, .int .i64 0, .int .i64 0] 104 (0, 0))).heap[u3.heap.size]? = some (.cells #[.int .i64 0, .int .i64 0, .int .i64 0] 104 (0, 0))) := Lib.hid (new_at _ _ _ (by simp))
          have BB3 : Hid (Below w.heap.size w (u3.alloc (.cells #[.int .i64 0, .int .i64 0, .int .i64 0] 104 (0, 0)))) := Lib.hid (Below.alloc (by exact BB2.out) BB2.out.size _)
          have Lr_c : Hid (w.heap.size < u3.heap.size) := Lib.hid (by have := blk_lt Kc2.out; simpa using this)
          have Lr : Hid (w.heap.size ≤ u3.heap.size) := Lib.hid (by have := BB2.out.size; simpa using this)
          refine hK.out _ _ (Kc3.out) (fun hHeld => ?_)
          clear hK K
          refine norm_ (a' := ?_) ?_ ?_
          rotate_left
          · show Act.put _ (some 8) _ = _
            simp only [Act.put, List.setIfInBounds_toArray, List.set_cons_zero, List.set_cons_succ, i64_w, i32_w]
            rfl
          refine one_ (i := 4) (N := some 7) #[true, true, true, true, true, true, false, false] rfl rfl (one_of HT_.out (by kernel_rfl)) (by decide) (fun K hK => ?_)
          refine value_ (w1 := ?_) (v := ?_) (by rfl) rfl ?_ ?_
          rotate_left 2
          · go_simp
            constructor
            · rfl
            · rfl
          have Kc4 : Hid (((u3.alloc (.cells #[.int .i64 0, .int .i64 0, .int .i64 0] 104 (0, 0))).alloc (.cells #[.int .i64 0, .int .i64 0, .int .i64 0] 99 (0, 0))).heap[w.heap.size]? = some (.cells #[.int .i64 c0, .int .i64 c1, .float .f64 c2, .int .i64 c3, .int .i64 c4, .int .i64 c5, .int .i64 c6, .int .i64 c7, .int .i64 c8, .bool c9, .bool c10] 95 (0, 0))) := Lib.hid (blk_alloc (by exact Kc3.out) _)
          have Kr4 : Hid (((u3.alloc (.cells #[.int .i64 0, .int .i64 0, .int .i64 0] 104 (0, 0))).alloc (.cells #[.int .i64 0, .int .i64 0, .int .i64 0] 99 (0, 0))).heap[u3.heap.size]? = some (.cells #[.int .i64 0, .int .i64 0, .int .i64 0] 104 (0, 0))) := Lib.hid (blk_alloc (by exact Kr3.out) _)
          have Kp4 : Hid (((u3.alloc (.cells #[.int .i64 0, .int .i64 0, .int .i64 0] 104 (0, 0))).alloc (.cells #[.int .i64 0, .int .i64 0, .int .i64 0] 99 (0, 0))).heap[u3.heap.size + 1]? = some (.cells #[.int .i64 0, .int .i64 0, .int .i64 0] 99 (0, 0))) := Lib.hid (new_at _ _ _ (by simp))
          have BB4 : Hid (Below w.heap.size w ((u3.alloc (.cells #[.int .i64 0, .int .i64 0, .int .i64 0] 104 (0, 0))).alloc (.cells #[.int .i64 0, .int .i64 0, .int .i64 0] 99 (0, 0)))) := Lib.hid (Below.alloc (by exact BB3.out) BB3.out.size _)
          have Lp_c : Hid (w.heap.size < u3.heap.size + 1) := Lib.hid (by have := blk_lt Kc3.out; simpa using this)
          have Lp : Hid (w.heap.size ≤ u3.heap.size + 1) := Lib.hid (by have := BB3.out.size; simpa using this)
          have Np_r : Hid (u3.heap.size + 1 ≠ u3.heap.size) := Lib.hid (by have := blk_lt Kr3.out; simp at this ⊢ <;> omega)
          have Nr_p : Hid (u3.heap.size ≠ u3.heap.size + 1) := Lib.hid (Ne.symm Np_r.out)
          refine hK.out _ _ (Kc4.out) (fun hHeld => ?_)
          clear hK K
          refine norm_ (a' := ?_) ?_ ?_
          rotate_left
          · show Act.put _ (some 7) _ = _
            simp only [Act.put, List.setIfInBounds_toArray, List.set_cons_zero, List.set_cons_succ, i64_w, i32_w]
            rfl
          exact norm_ (by simp only [putAll, Act.put, List.setIfInBounds_toArray, List.set_cons_zero, List.set_cons_succ]) (hCont (u3.heap.size + 1, u3.heap.size) _ ⟨Kc4.out, Kp4.out, Kr4.out, Lp_c.out, Lr_c.out, Lp.out, Lr.out, Np_r.out, Nr_p.out, BB4.out⟩)
      · skip
        refine value_ (w1 := ?_) (v := ?_) (by rfl) rfl ?_ ?_
        rotate_left 2
        · go_simp
          constructor
          · rfl
          · rfl
        have Kc2 : Hid ((u1.alloc (.cells #[.int .i64 0, .int .i64 0, .int .i64 0] 99 (0, 0))).heap[w.heap.size]? = some (.cells #[.int .i64 c0, .int .i64 c1, .float .f64 c2, .int .i64 c3, .int .i64 c4, .int .i64 c5, .int .i64 c6, .int .i64 c7, .int .i64 c8, .bool c9, .bool c10] 95 (0, 0))) := Lib.hid (blk_alloc (by exact Kc1.out) _)
        have Kp2 : Hid ((u1.alloc (.cells #[.int .i64 0, .int .i64 0, .int .i64 0] 99 (0, 0))).heap[u1.heap.size]? = some (.cells #[.int .i64 0, .int .i64 0, .int .i64 0] 99 (0, 0))) := Lib.hid (new_at _ _ _ (by simp))
        have BB2 : Hid (Below w.heap.size w (u1.alloc (.cells #[.int .i64 0, .int .i64 0, .int .i64 0] 99 (0, 0)))) := Lib.hid (Below.alloc (by exact BB1.out) BB1.out.size _)
        have Lp_c : Hid (w.heap.size < u1.heap.size) := Lib.hid (by have := blk_lt Kc1.out; simpa using this)
        have Lp : Hid (w.heap.size ≤ u1.heap.size) := Lib.hid (by have := BB1.out.size; simpa using this)
        refine hK.out _ _ (Kc2.out) (fun hHeld => ?_)
        clear hK K
        refine norm_ (a' := ?_) ?_ ?_
        rotate_left
        · show Act.put _ (some 7) _ = _
          simp only [Act.put, List.setIfInBounds_toArray, List.set_cons_zero, List.set_cons_succ, i64_w, i32_w]
          rfl
        refine two_ (i := 3) (j := 5) (Ni := some 18) (Nj := some 8) #[true, true, true, true, true, false, false, false] #[true, true, true, false, true, true, false, false] rfl rfl rfl rfl (two_of HT_.out (by kernel_rfl)) (by decide) (by decide) (fun K hK => ?_) (fun K hK => ?_)
        · skip
          refine goes_ Try.func92 (by kernel_rfl) rfl #[.agg #[.int .i64 c0, .int .i64 c1, .float .f64 c2, .int .i64 c3, .int .i64 c4, .int .i64 c5, .int .i64 c6, .int .i64 c7, .int .i64 c8, .bool c9, .bool c10], .int .i64 0] (by rfl) rfl rfl (by simp only [List.map_toArray, List.map_cons, List.map_nil]; rfl) ?_
          with_reducible refine (H2.out _).mono ?_
          rintro e u3 ⟨rfl, hb⟩
          have Kc3 : Hid (u3.heap[w.heap.size]? = some (.cells #[.int .i64 c0, .int .i64 c1, .float .f64 c2, .int .i64 c3, .int .i64 c4, .int .i64 c5, .int .i64 c6, .int .i64 c7, .int .i64 c8, .bool c9, .bool c10] 95 (0, 0))) := Lib.hid (blk_below (by exact Kc2.out) hb)
          have Kp3 : Hid (u3.heap[u1.heap.size]? = some (.cells #[.int .i64 0, .int .i64 0, .int .i64 0] 99 (0, 0))) := Lib.hid (blk_below (by exact Kp2.out) hb)
          have BB3 : Hid (Below w.heap.size w u3) := Lib.hid (Below.trans (by exact BB2.out) (hb.mono (by have := BB2.out.size; simpa using this)))
          clear hb
          refine ⟨_, rfl, ?_⟩
          refine hK.out _ _ (Kc3.out) (fun hHeld => ?_)
          clear hK K
          refine norm_ (a' := ?_) ?_ ?_
          rotate_left
          · show Act.put _ (some 18) _ = _
            simp only [Act.put, List.setIfInBounds_toArray, List.set_cons_zero, List.set_cons_succ, i64_w, i32_w]
            rfl
          refine one_ (i := 5) (N := some 8) #[true, true, true, true, true, true, false, false] rfl rfl (one_of HT_.out (by kernel_rfl)) (by decide) (fun K hK => ?_)
          refine value_ (w1 := ?_) (v := ?_) (by rfl) rfl ?_ ?_
          rotate_left 2
          · go_simp
            constructor
            · rfl
            · rfl
          have Kc4 : Hid ((u3.alloc (.cells #[.int .i64 0, .int .i64 0, .int .i64 0] 104 (0, 0))).heap[w.heap.size]? = some (.cells #[.int .i64 c0, .int .i64 c1, .float .f64 c2, .int .i64 c3, .int .i64 c4, .int .i64 c5, .int .i64 c6, .int .i64 c7, .int .i64 c8, .bool c9, .bool c10] 95 (0, 0))) := Lib.hid (blk_alloc (by exact Kc3.out) _)
          have Kp4 : Hid ((u3.alloc (.cells #[.int .i64 0, .int .i64 0, .int .i64 0] 104 (0, 0))).heap[u1.heap.size]? = some (.cells #[.int .i64 0, .int .i64 0, .int .i64 0] 99 (0, 0))) := Lib.hid (blk_alloc (by exact Kp3.out) _)
          have Kr4 : Hid ((u3.alloc (.cells #[.int .i64 0, .int .i64 0, .int .i64 0] 104 (0, 0))).heap[u3.heap.size]? = some (.cells #[.int .i64 0, .int .i64 0, .int .i64 0] 104 (0, 0))) := Lib.hid (new_at _ _ _ (by simp))
          have BB4 : Hid (Below w.heap.size w (u3.alloc (.cells #[.int .i64 0, .int .i64 0, .int .i64 0] 104 (0, 0)))) := Lib.hid (Below.alloc (by exact BB3.out) BB3.out.size _)
          have Lr_c : Hid (w.heap.size < u3.heap.size) := Lib.hid (by have := blk_lt Kc3.out; simpa using this)
          have Lr : Hid (w.heap.size ≤ u3.heap.size) := Lib.hid (by have := BB3.out.size; simpa using this)
          have Nr_p : Hid (u3.heap.size ≠ u1.heap.size) := Lib.hid (by have := blk_lt Kp3.out; simp at this ⊢ <;> omega)
          have Np_r : Hid (u1.heap.size ≠ u3.heap.size) := Lib.hid (Ne.symm Nr_p.out)
          refine hK.out _ _ (Kc4.out) (fun hHeld => ?_)
          clear hK K
          refine norm_ (a' := ?_) ?_ ?_
          rotate_left
          · show Act.put _ (some 8) _ = _
            simp only [Act.put, List.setIfInBounds_toArray, List.set_cons_zero, List.set_cons_succ, i64_w, i32_w]
            rfl
          exact norm_ (by simp only [putAll, Act.put, List.setIfInBounds_toArray, List.set_cons_zero, List.set_cons_succ]) (hCont (u1.heap.size, u3.heap.size) _ ⟨Kc4.out, Kp4.out, Kr4.out, Lp_c.out, Lr_c.out, Lp.out, Lr.out, Np_r.out, Nr_p.out, BB4.out⟩)
        · skip
          refine value_ (w1 := ?_) (v := ?_) (by rfl) rfl ?_ ?_
          rotate_left 2
          · go_simp
            constructor
            · rfl
            · rfl
          have Kc3 : Hid (((u1.alloc (.cells #[.int .i64 0, .int .i64 0, .int .i64 0] 99 (0, 0))).alloc (.cells #[.int .i64 0, .int .i64 0, .int .i64 0] 104 (0, 0))).heap[w.heap.size]? = some (.cells #[.int .i64 c0, .int .i64 c1, .float .f64 c2, .int .i64 c3, .int .i64 c4, .int .i64 c5, .int .i64 c6, .int .i64 c7, .int .i64 c8, .bool c9, .bool c10] 95 (0, 0))) := Lib.hid (blk_alloc (by exact Kc2.out) _)
          have Kp3 : Hid (((u1.alloc (.cells #[.int .i64 0, .int .i64 0, .int .i64 0] 99 (0, 0))).alloc (.cells #[.int .i64 0, .int .i64 0, .int .i64 0] 104 (0, 0))).heap[u1.heap.size]? = some (.cells #[.int .i64 0, .int .i64 0, .int .i64 0] 99 (0, 0))) := Lib.hid (blk_alloc (by exact Kp2.out) _)
          have Kr3 : Hid (((u1.alloc (.cells #[.int .i64 0, .int .i64 0, .int .i64 0] 99 (0, 0))).alloc (.cells #[.int .i64 0, .int .i64 0, .int .i64 0] 104 (0, 0))).heap[u1.heap.size + 1]? = some (.cells #[.int .i64 0, .int .i64 0, .int .i64 0] 104 (0, 0))) := Lib.hid (new_at _ _ _ (by simp))
          have BB3 : Hid (Below w.heap.size w ((u1.alloc (.cells #[.int .i64 0, .int .i64 0, .int .i64 0] 99 (0, 0))).alloc (.cells #[.int .i64 0, .int .i64 0, .int .i64 0] 104 (0, 0)))) := Lib.hid (Below.alloc (by exact BB2.out) BB2.out.size _)
          have Lr_c : Hid (w.heap.size < u1.heap.size + 1) := Lib.hid (by have := blk_lt Kc2.out; simpa using this)
          have Lr : Hid (w.heap.size ≤ u1.heap.size + 1) := Lib.hid (by have := BB2.out.size; simpa using this)
          have Nr_p : Hid (u1.heap.size + 1 ≠ u1.heap.size) := Lib.hid (by have := blk_lt Kp2.out; simp at this ⊢ <;> omega)
          have Np_r : Hid (u1.heap.size ≠ u1.heap.size + 1) := Lib.hid (Ne.symm Nr_p.out)
          refine hK.out _ _ (Kc3.out) (fun hHeld => ?_)
          clear hK K
          refine norm_ (a' := ?_) ?_ ?_
          rotate_left
          · show Act.put _ (some 8) _ = _
            simp only [Act.put, List.setIfInBounds_toArray, List.set_cons_zero, List.set_cons_succ, i64_w, i32_w]
            rfl
          refine one_ (i := 3) (N := some 18) #[true, true, true, true, true, true, false, false] rfl rfl (one_of HT_.out (by kernel_rfl)) (by decide) (fun K hK => ?_)
          refine goes_ Try.func92 (by kernel_rfl) rfl #[.agg #[.int .i64 c0, .int .i64 c1, .float .f64 c2, .int .i64 c3, .int .i64 c4, .int .i64 c5, .int .i64 c6, .int .i64 c7, .int .i64 c8, .bool c9, .bool c10], .int .i64 0] (by rfl) rfl rfl (by simp only [List.map_toArray, List.map_cons, List.map_nil]; rfl) ?_
          with_reducible refine (H2.out _).mono ?_
          rintro e u3 ⟨rfl, hb⟩
          have Kc4 : Hid (u3.heap[w.heap.size]? = some (.cells #[.int .i64 c0, .int .i64 c1, .float .f64 c2, .int .i64 c3, .int .i64 c4, .int .i64 c5, .int .i64 c6, .int .i64 c7, .int .i64 c8, .bool c9, .bool c10] 95 (0, 0))) := Lib.hid (blk_below (by exact Kc3.out) hb)
          have Kp4 : Hid (u3.heap[u1.heap.size]? = some (.cells #[.int .i64 0, .int .i64 0, .int .i64 0] 99 (0, 0))) := Lib.hid (blk_below (by exact Kp3.out) hb)
          have Kr4 : Hid (u3.heap[u1.heap.size + 1]? = some (.cells #[.int .i64 0, .int .i64 0, .int .i64 0] 104 (0, 0))) := Lib.hid (blk_below (by exact Kr3.out) hb)
          have BB4 : Hid (Below w.heap.size w u3) := Lib.hid (Below.trans (by exact BB3.out) (hb.mono (by have := BB3.out.size; simpa using this)))
          clear hb
          refine ⟨_, rfl, ?_⟩
          refine hK.out _ _ (Kc4.out) (fun hHeld => ?_)
          clear hK K
          refine norm_ (a' := ?_) ?_ ?_
          rotate_left
          · show Act.put _ (some 18) _ = _
            simp only [Act.put, List.setIfInBounds_toArray, List.set_cons_zero, List.set_cons_succ, i64_w, i32_w]
            rfl
          exact norm_ (by simp only [putAll, Act.put, List.setIfInBounds_toArray, List.set_cons_zero, List.set_cons_succ]) (hCont (u1.heap.size, u1.heap.size + 1) _ ⟨Kc4.out, Kp4.out, Kr4.out, Lp_c.out, Lr_c.out, Lp.out, Lr.out, Np_r.out, Nr_p.out, BB4.out⟩)
      · skip
        refine value_ (w1 := ?_) (v := ?_) (by rfl) rfl ?_ ?_
        rotate_left 2
        · go_simp
          constructor
          · rfl
          · rfl
        have Kc2 : Hid ((u1.alloc (.cells #[.int .i64 0, .int .i64 0, .int .i64 0] 104 (0, 0))).heap[w.heap.size]? = some (.cells #[.int .i64 c0, .int .i64 c1, .float .f64 c2, .int .i64 c3, .int .i64 c4, .int .i64 c5, .int .i64 c6, .int .i64 c7, .int .i64 c8, .bool c9, .bool c10] 95 (0, 0))) := Lib.hid (blk_alloc (by exact Kc1.out) _)
        have Kr2 : Hid ((u1.alloc (.cells #[.int .i64 0, .int .i64 0, .int .i64 0] 104 (0, 0))).heap[u1.heap.size]? = some (.cells #[.int .i64 0, .int .i64 0, .int .i64 0] 104 (0, 0))) := Lib.hid (new_at _ _ _ (by simp))
        have BB2 : Hid (Below w.heap.size w (u1.alloc (.cells #[.int .i64 0, .int .i64 0, .int .i64 0] 104 (0, 0)))) := Lib.hid (Below.alloc (by exact BB1.out) BB1.out.size _)
        have Lr_c : Hid (w.heap.size < u1.heap.size) := Lib.hid (by have := blk_lt Kc1.out; simpa using this)
        have Lr : Hid (w.heap.size ≤ u1.heap.size) := Lib.hid (by have := BB1.out.size; simpa using this)
        refine hK.out _ _ (Kc2.out) (fun hHeld => ?_)
        clear hK K
        refine norm_ (a' := ?_) ?_ ?_
        rotate_left
        · show Act.put _ (some 8) _ = _
          simp only [Act.put, List.setIfInBounds_toArray, List.set_cons_zero, List.set_cons_succ, i64_w, i32_w]
          rfl
        refine two_ (i := 3) (j := 4) (Ni := some 18) (Nj := some 7) #[true, true, true, true, false, true, false, false] #[true, true, true, false, true, true, false, false] rfl rfl rfl rfl (two_of HT_.out (by kernel_rfl)) (by decide) (by decide) (fun K hK => ?_) (fun K hK => ?_)
        · skip
          refine goes_ Try.func92 (by kernel_rfl) rfl #[.agg #[.int .i64 c0, .int .i64 c1, .float .f64 c2, .int .i64 c3, .int .i64 c4, .int .i64 c5, .int .i64 c6, .int .i64 c7, .int .i64 c8, .bool c9, .bool c10], .int .i64 0] (by rfl) rfl rfl (by simp only [List.map_toArray, List.map_cons, List.map_nil]; rfl) ?_
          with_reducible refine (H2.out _).mono ?_
          rintro e u3 ⟨rfl, hb⟩
          have Kc3 : Hid (u3.heap[w.heap.size]? = some (.cells #[.int .i64 c0, .int .i64 c1, .float .f64 c2, .int .i64 c3, .int .i64 c4, .int .i64 c5, .int .i64 c6, .int .i64 c7, .int .i64 c8, .bool c9, .bool c10] 95 (0, 0))) := Lib.hid (blk_below (by exact Kc2.out) hb)
          have Kr3 : Hid (u3.heap[u1.heap.size]? = some (.cells #[.int .i64 0, .int .i64 0, .int .i64 0] 104 (0, 0))) := Lib.hid (blk_below (by exact Kr2.out) hb)
          have BB3 : Hid (Below w.heap.size w u3) := Lib.hid (Below.trans (by exact BB2.out) (hb.mono (by have := BB2.out.size; simpa using this)))
          clear hb
          refine ⟨_, rfl, ?_⟩
          refine hK.out _ _ (Kc3.out) (fun hHeld => ?_)
          clear hK K
          refine norm_ (a' := ?_) ?_ ?_
          rotate_left
          · show Act.put _ (some 18) _ = _
            simp only [Act.put, List.setIfInBounds_toArray, List.set_cons_zero, List.set_cons_succ, i64_w, i32_w]
            rfl
          refine one_ (i := 4) (N := some 7) #[true, true, true, true, true, true, false, false] rfl rfl (one_of HT_.out (by kernel_rfl)) (by decide) (fun K hK => ?_)
          refine value_ (w1 := ?_) (v := ?_) (by rfl) rfl ?_ ?_
          rotate_left 2
          · go_simp
            constructor
            · rfl
            · rfl
          have Kc4 : Hid ((u3.alloc (.cells #[.int .i64 0, .int .i64 0, .int .i64 0] 99 (0, 0))).heap[w.heap.size]? = some (.cells #[.int .i64 c0, .int .i64 c1, .float .f64 c2, .int .i64 c3, .int .i64 c4, .int .i64 c5, .int .i64 c6, .int .i64 c7, .int .i64 c8, .bool c9, .bool c10] 95 (0, 0))) := Lib.hid (blk_alloc (by exact Kc3.out) _)
          have Kr4 : Hid ((u3.alloc (.cells #[.int .i64 0, .int .i64 0, .int .i64 0] 99 (0, 0))).heap[u1.heap.size]? = some (.cells #[.int .i64 0, .int .i64 0, .int .i64 0] 104 (0, 0))) := Lib.hid (blk_alloc (by exact Kr3.out) _)
          have Kp4 : Hid ((u3.alloc (.cells #[.int .i64 0, .int .i64 0, .int .i64 0] 99 (0, 0))).heap[u3.heap.size]? = some (.cells #[.int .i64 0, .int .i64 0, .int .i64 0] 99 (0, 0))) := Lib.hid (new_at _ _ _ (by simp))
          have BB4 : Hid (Below w.heap.size w (u3.alloc (.cells #[.int .i64 0, .int .i64 0, .int .i64 0] 99 (0, 0)))) := Lib.hid (Below.alloc (by exact BB3.out) BB3.out.size _)
          have Lp_c : Hid (w.heap.size < u3.heap.size) := Lib.hid (by have := blk_lt Kc3.out; simpa using this)
          have Lp : Hid (w.heap.size ≤ u3.heap.size) := Lib.hid (by have := BB3.out.size; simpa using this)
          have Np_r : Hid (u3.heap.size ≠ u1.heap.size) := Lib.hid (by have := blk_lt Kr3.out; simp at this ⊢ <;> omega)
          have Nr_p : Hid (u1.heap.size ≠ u3.heap.size) := Lib.hid (Ne.symm Np_r.out)
          refine hK.out _ _ (Kc4.out) (fun hHeld => ?_)
          clear hK K
          refine norm_ (a' := ?_) ?_ ?_
          rotate_left
          · show Act.put _ (some 7) _ = _
            simp only [Act.put, List.setIfInBounds_toArray, List.set_cons_zero, List.set_cons_succ, i64_w, i32_w]
            rfl
          exact norm_ (by simp only [putAll, Act.put, List.setIfInBounds_toArray, List.set_cons_zero, List.set_cons_succ]) (hCont (u3.heap.size, u1.heap.size) _ ⟨Kc4.out, Kp4.out, Kr4.out, Lp_c.out, Lr_c.out, Lp.out, Lr.out, Np_r.out, Nr_p.out, BB4.out⟩)
        · skip
          refine value_ (w1 := ?_) (v := ?_) (by rfl) rfl ?_ ?_
          rotate_left 2
          · go_simp
            constructor
            · rfl
            · rfl
          have Kc3 : Hid (((u1.alloc (.cells #[.int .i64 0, .int .i64 0, .int .i64 0] 104 (0, 0))).alloc (.cells #[.int .i64 0, .int .i64 0, .int .i64 0] 99 (0, 0))).heap[w.heap.size]? = some (.cells #[.int .i64 c0, .int .i64 c1, .float .f64 c2, .int .i64 c3, .int .i64 c4, .int .i64 c5, .int .i64 c6, .int .i64 c7, .int .i64 c8, .bool c9, .bool c10] 95 (0, 0))) := Lib.hid (blk_alloc (by exact Kc2.out) _)
          have Kr3 : Hid (((u1.alloc (.cells #[.int .i64 0, .int .i64 0, .int .i64 0] 104 (0, 0))).alloc (.cells #[.int .i64 0, .int .i64 0, .int .i64 0] 99 (0, 0))).heap[u1.heap.size]? = some (.cells #[.int .i64 0, .int .i64 0, .int .i64 0] 104 (0, 0))) := Lib.hid (blk_alloc (by exact Kr2.out) _)
          have Kp3 : Hid (((u1.alloc (.cells #[.int .i64 0, .int .i64 0, .int .i64 0] 104 (0, 0))).alloc (.cells #[.int .i64 0, .int .i64 0, .int .i64 0] 99 (0, 0))).heap[u1.heap.size + 1]? = some (.cells #[.int .i64 0, .int .i64 0, .int .i64 0] 99 (0, 0))) := Lib.hid (new_at _ _ _ (by simp))
          have BB3 : Hid (Below w.heap.size w ((u1.alloc (.cells #[.int .i64 0, .int .i64 0, .int .i64 0] 104 (0, 0))).alloc (.cells #[.int .i64 0, .int .i64 0, .int .i64 0] 99 (0, 0)))) := Lib.hid (Below.alloc (by exact BB2.out) BB2.out.size _)
          have Lp_c : Hid (w.heap.size < u1.heap.size + 1) := Lib.hid (by have := blk_lt Kc2.out; simpa using this)
          have Lp : Hid (w.heap.size ≤ u1.heap.size + 1) := Lib.hid (by have := BB2.out.size; simpa using this)
          have Np_r : Hid (u1.heap.size + 1 ≠ u1.heap.size) := Lib.hid (by have := blk_lt Kr2.out; simp at this ⊢ <;> omega)
          have Nr_p : Hid (u1.heap.size ≠ u1.heap.size + 1) := Lib.hid (Ne.symm Np_r.out)
          refine hK.out _ _ (Kc3.out) (fun hHeld => ?_)
          clear hK K
          refine norm_ (a' := ?_) ?_ ?_
          rotate_left
          · show Act.put _ (some 7) _ = _
            simp only [Act.put, List.setIfInBounds_toArray, List.set_cons_zero, List.set_cons_succ, i64_w, i32_w]
            rfl
          refine one_ (i := 3) (N := some 18) #[true, true, true, true, true, true, false, false] rfl rfl (one_of HT_.out (by kernel_rfl)) (by decide) (fun K hK => ?_)
          refine goes_ Try.func92 (by kernel_rfl) rfl #[.agg #[.int .i64 c0, .int .i64 c1, .float .f64 c2, .int .i64 c3, .int .i64 c4, .int .i64 c5, .int .i64 c6, .int .i64 c7, .int .i64 c8, .bool c9, .bool c10], .int .i64 0] (by rfl) rfl rfl (by simp only [List.map_toArray, List.map_cons, List.map_nil]; rfl) ?_
          with_reducible refine (H2.out _).mono ?_
          rintro e u3 ⟨rfl, hb⟩
          have Kc4 : Hid (u3.heap[w.heap.size]? = some (.cells #[.int .i64 c0, .int .i64 c1, .float .f64 c2, .int .i64 c3, .int .i64 c4, .int .i64 c5, .int .i64 c6, .int .i64 c7, .int .i64 c8, .bool c9, .bool c10] 95 (0, 0))) := Lib.hid (blk_below (by exact Kc3.out) hb)
          have Kr4 : Hid (u3.heap[u1.heap.size]? = some (.cells #[.int .i64 0, .int .i64 0, .int .i64 0] 104 (0, 0))) := Lib.hid (blk_below (by exact Kr3.out) hb)
          have Kp4 : Hid (u3.heap[u1.heap.size + 1]? = some (.cells #[.int .i64 0, .int .i64 0, .int .i64 0] 99 (0, 0))) := Lib.hid (blk_below (by exact Kp3.out) hb)
          have BB4 : Hid (Below w.heap.size w u3) := Lib.hid (Below.trans (by exact BB3.out) (hb.mono (by have := BB3.out.size; simpa using this)))
          clear hb
          refine ⟨_, rfl, ?_⟩
          refine hK.out _ _ (Kc4.out) (fun hHeld => ?_)
          clear hK K
          refine norm_ (a' := ?_) ?_ ?_
          rotate_left
          · show Act.put _ (some 18) _ = _
            simp only [Act.put, List.setIfInBounds_toArray, List.set_cons_zero, List.set_cons_succ, i64_w, i32_w]
            rfl
          exact norm_ (by simp only [putAll, Act.put, List.setIfInBounds_toArray, List.set_cons_zero, List.set_cons_succ]) (hCont (u1.heap.size + 1, u1.heap.size) _ ⟨Kc4.out, Kp4.out, Kr4.out, Lp_c.out, Lr_c.out, Lp.out, Lr.out, Np_r.out, Nr_p.out, BB4.out⟩)
    · skip
      refine value_ (w1 := ?_) (v := ?_) (by rfl) rfl ?_ ?_
      rotate_left 2
      · go_simp
        constructor
        · rfl
        · rfl
      have Kc1 : Hid ((wd.alloc (.cells #[.int .i64 0, .int .i64 0, .int .i64 0] 99 (0, 0))).heap[w.heap.size]? = some (.cells #[.int .i64 c0, .int .i64 c1, .float .f64 c2, .int .i64 c3, .int .i64 c4, .int .i64 c5, .int .i64 c6, .int .i64 c7, .int .i64 c8, .bool c9, .bool c10] 95 (0, 0))) := Lib.hid (blk_alloc (by exact Kc0.out) _)
      have Kp1 : Hid ((wd.alloc (.cells #[.int .i64 0, .int .i64 0, .int .i64 0] 99 (0, 0))).heap[wd.heap.size]? = some (.cells #[.int .i64 0, .int .i64 0, .int .i64 0] 99 (0, 0))) := Lib.hid (new_at _ _ _ (by simp))
      have BB1 : Hid (Below w.heap.size w (wd.alloc (.cells #[.int .i64 0, .int .i64 0, .int .i64 0] 99 (0, 0)))) := Lib.hid (Below.alloc (by exact BB0.out) BB0.out.size _)
      have Lp_c : Hid (w.heap.size < wd.heap.size) := Lib.hid (by have := blk_lt Kc0.out; simpa using this)
      have Lp : Hid (w.heap.size ≤ wd.heap.size) := Lib.hid (by have := BB0.out.size; simpa using this)
      refine hK.out _ _ (Kc1.out) (fun hHeld => ?_)
      clear hK K
      refine norm_ (a' := ?_) ?_ ?_
      rotate_left
      · show Act.put _ (some 7) _ = _
        simp only [Act.put, List.setIfInBounds_toArray, List.set_cons_zero, List.set_cons_succ, i64_w, i32_w]
        rfl
      refine two_ (i := 1) (j := 5) (Ni := some 16) (Nj := some 8) #[true, true, true, false, true, false, false, false] #[true, false, true, false, true, true, false, false] rfl rfl rfl rfl (two_of HT_.out (by kernel_rfl)) (by decide) (by decide) (fun K hK => ?_) (fun K hK => ?_)
      · skip
        refine goes_ Try.func90 (by kernel_rfl) rfl #[.agg #[.int .i64 c0, .int .i64 c1, .float .f64 c2, .int .i64 c3, .int .i64 c4, .int .i64 c5, .int .i64 c6, .int .i64 c7, .int .i64 c8, .bool c9, .bool c10], .int .i64 0] (by rfl) rfl rfl (by simp only [List.map_toArray, List.map_cons, List.map_nil]; rfl) ?_
        with_reducible refine (H1.out _).mono ?_
        rintro e u1 ⟨rfl, hb⟩
        have Kc2 : Hid (u1.heap[w.heap.size]? = some (.cells #[.int .i64 c0, .int .i64 c1, .float .f64 c2, .int .i64 c3, .int .i64 c4, .int .i64 c5, .int .i64 c6, .int .i64 c7, .int .i64 c8, .bool c9, .bool c10] 95 (0, 0))) := Lib.hid (blk_below (by exact Kc1.out) hb)
        have Kp2 : Hid (u1.heap[wd.heap.size]? = some (.cells #[.int .i64 0, .int .i64 0, .int .i64 0] 99 (0, 0))) := Lib.hid (blk_below (by exact Kp1.out) hb)
        have BB2 : Hid (Below w.heap.size w u1) := Lib.hid (Below.trans (by exact BB1.out) (hb.mono (by have := BB1.out.size; simpa using this)))
        clear hb
        refine ⟨_, rfl, ?_⟩
        refine hK.out _ _ (Kc2.out) (fun hHeld => ?_)
        clear hK K
        refine norm_ (a' := ?_) ?_ ?_
        rotate_left
        · show Act.put _ (some 16) _ = _
          simp only [Act.put, List.setIfInBounds_toArray, List.set_cons_zero, List.set_cons_succ, i64_w, i32_w]
          rfl
        refine two_ (i := 3) (j := 5) (Ni := some 18) (Nj := some 8) #[true, true, true, true, true, false, false, false] #[true, true, true, false, true, true, false, false] rfl rfl rfl rfl (two_of HT_.out (by kernel_rfl)) (by decide) (by decide) (fun K hK => ?_) (fun K hK => ?_)
        · skip
          refine goes_ Try.func92 (by kernel_rfl) rfl #[.agg #[.int .i64 c0, .int .i64 c1, .float .f64 c2, .int .i64 c3, .int .i64 c4, .int .i64 c5, .int .i64 c6, .int .i64 c7, .int .i64 c8, .bool c9, .bool c10], .int .i64 0] (by rfl) rfl rfl (by simp only [List.map_toArray, List.map_cons, List.map_nil]; rfl) ?_
          with_reducible refine (H2.out _).mono ?_
          rintro e u3 ⟨rfl, hb⟩
          have Kc3 : Hid (u3.heap[w.heap.size]? = some (.cells #[.int .i64 c0, .int .i64 c1, .float .f64 c2, .int .i64 c3, .int .i64 c4, .int .i64 c5, .int .i64 c6, .int .i64 c7, .int .i64 c8, .bool c9, .bool c10] 95 (0, 0))) := Lib.hid (blk_below (by exact Kc2.out) hb)
          have Kp3 : Hid (u3.heap[wd.heap.size]? = some (.cells #[.int .i64 0, .int .i64 0, .int .i64 0] 99 (0, 0))) := Lib.hid (blk_below (by exact Kp2.out) hb)
          have BB3 : Hid (Below w.heap.size w u3) := Lib.hid (Below.trans (by exact BB2.out) (hb.mono (by have := BB2.out.size; simpa using this)))
          clear hb
          refine ⟨_, rfl, ?_⟩
          refine hK.out _ _ (Kc3.out) (fun hHeld => ?_)
          clear hK K
          refine norm_ (a' := ?_) ?_ ?_
          rotate_left
          · show Act.put _ (some 18) _ = _
            simp only [Act.put, List.setIfInBounds_toArray, List.set_cons_zero, List.set_cons_succ, i64_w, i32_w]
            rfl
          refine one_ (i := 5) (N := some 8) #[true, true, true, true, true, true, false, false] rfl rfl (one_of HT_.out (by kernel_rfl)) (by decide) (fun K hK => ?_)
          refine value_ (w1 := ?_) (v := ?_) (by rfl) rfl ?_ ?_
          rotate_left 2
          · go_simp
            constructor
            · rfl
            · rfl
          have Kc4 : Hid ((u3.alloc (.cells #[.int .i64 0, .int .i64 0, .int .i64 0] 104 (0, 0))).heap[w.heap.size]? = some (.cells #[.int .i64 c0, .int .i64 c1, .float .f64 c2, .int .i64 c3, .int .i64 c4, .int .i64 c5, .int .i64 c6, .int .i64 c7, .int .i64 c8, .bool c9, .bool c10] 95 (0, 0))) := Lib.hid (blk_alloc (by exact Kc3.out) _)
          have Kp4 : Hid ((u3.alloc (.cells #[.int .i64 0, .int .i64 0, .int .i64 0] 104 (0, 0))).heap[wd.heap.size]? = some (.cells #[.int .i64 0, .int .i64 0, .int .i64 0] 99 (0, 0))) := Lib.hid (blk_alloc (by exact Kp3.out) _)
          have Kr4 : Hid ((u3.alloc (.cells #[.int .i64 0, .int .i64 0, .int .i64 0] 104 (0, 0))).heap[u3.heap.size]? = some (.cells #[.int .i64 0, .int .i64 0, .int .i64 0] 104 (0, 0))) := Lib.hid (new_at _ _ _ (by simp))
          have BB4 : Hid (Below w.heap.size w (u3.alloc (.cells #[.int .i64 0, .int .i64 0, .int .i64 0] 104 (0, 0)))) := Lib.hid (Below.alloc (by exact BB3.out) BB3.out.size _)
          have Lr_c : Hid (w.heap.size < u3.heap.size) := Lib.hid (by have := blk_lt Kc3.out; simpa using this)
          have Lr : Hid (w.heap.size ≤ u3.heap.size) := Lib.hid (by have := BB3.out.size; simpa using this)
          have Nr_p : Hid (u3.heap.size ≠ wd.heap.size) := Lib.hid (by have := blk_lt Kp3.out; simp at this ⊢ <;> omega)
          have Np_r : Hid (wd.heap.size ≠ u3.heap.size) := Lib.hid (Ne.symm Nr_p.out)
          refine hK.out _ _ (Kc4.out) (fun hHeld => ?_)
          clear hK K
          refine norm_ (a' := ?_) ?_ ?_
          rotate_left
          · show Act.put _ (some 8) _ = _
            simp only [Act.put, List.setIfInBounds_toArray, List.set_cons_zero, List.set_cons_succ, i64_w, i32_w]
            rfl
          exact norm_ (by simp only [putAll, Act.put, List.setIfInBounds_toArray, List.set_cons_zero, List.set_cons_succ]) (hCont (wd.heap.size, u3.heap.size) _ ⟨Kc4.out, Kp4.out, Kr4.out, Lp_c.out, Lr_c.out, Lp.out, Lr.out, Np_r.out, Nr_p.out, BB4.out⟩)
        · skip
          refine value_ (w1 := ?_) (v := ?_) (by rfl) rfl ?_ ?_
          rotate_left 2
          · go_simp
            constructor
            · rfl
            · rfl
          have Kc3 : Hid ((u1.alloc (.cells #[.int .i64 0, .int .i64 0, .int .i64 0] 104 (0, 0))).heap[w.heap.size]? = some (.cells #[.int .i64 c0, .int .i64 c1, .float .f64 c2, .int .i64 c3, .int .i64 c4, .int .i64 c5, .int .i64 c6, .int .i64 c7, .int .i64 c8, .bool c9, .bool c10] 95 (0, 0))) := Lib.hid (blk_alloc (by exact Kc2.out) _)
          have Kp3 : Hid ((u1.alloc (.cells #[.int .i64 0, .int .i64 0, .int .i64 0] 104 (0, 0))).heap[wd.heap.size]? = some (.cells #[.int .i64 0, .int .i64 0, .int .i64 0] 99 (0, 0))) := Lib.hid (blk_alloc (by exact Kp2.out) _)
          have Kr3 : Hid ((u1.alloc (.cells #[.int .i64 0, .int .i64 0, .int .i64 0] 104 (0, 0))).heap[u1.heap.size]? = some (.cells #[.int .i64 0, .int .i64 0, .int .i64 0] 104 (0, 0))) := Lib.hid (new_at _ _ _ (by simp))
          have BB3 : Hid (Below w.heap.size w (u1.alloc (.cells #[.int .i64 0, .int .i64 0, .int .i64 0] 104 (0, 0)))) := Lib.hid (Below.alloc (by exact BB2.out) BB2.out.size _)
          have Lr_c : Hid (w.heap.size < u1.heap.size) := Lib.hid (by have := blk_lt Kc2.out; simpa using this)
          have Lr : Hid (w.heap.size ≤ u1.heap.size) := Lib.hid (by have := BB2.out.size; simpa using this)
          have Nr_p : Hid (u1.heap.size ≠ wd.heap.size) := Lib.hid (by have := blk_lt Kp2.out; simp at this ⊢ <;> omega)
          have Np_r : Hid (wd.heap.size ≠ u1.heap.size) := Lib.hid (Ne.symm Nr_p.out)
          refine hK.out _ _ (Kc3.out) (fun hHeld => ?_)
          clear hK K
          refine norm_ (a' := ?_) ?_ ?_
          rotate_left
          · show Act.put _ (some 8) _ = _
            simp only [Act.put, List.setIfInBounds_toArray, List.set_cons_zero, List.set_cons_succ, i64_w, i32_w]
            rfl
          refine one_ (i := 3) (N := some 18) #[true, true, true, true, true, true, false, false] rfl rfl (one_of HT_.out (by kernel_rfl)) (by decide) (fun K hK => ?_)
          refine goes_ Try.func92 (by kernel_rfl) rfl #[.agg #[.int .i64 c0, .int .i64 c1, .float .f64 c2, .int .i64 c3, .int .i64 c4, .int .i64 c5, .int .i64 c6, .int .i64 c7, .int .i64 c8, .bool c9, .bool c10], .int .i64 0] (by rfl) rfl rfl (by simp only [List.map_toArray, List.map_cons, List.map_nil]; rfl) ?_
          with_reducible refine (H2.out _).mono ?_
          rintro e u3 ⟨rfl, hb⟩
          have Kc4 : Hid (u3.heap[w.heap.size]? = some (.cells #[.int .i64 c0, .int .i64 c1, .float .f64 c2, .int .i64 c3, .int .i64 c4, .int .i64 c5, .int .i64 c6, .int .i64 c7, .int .i64 c8, .bool c9, .bool c10] 95 (0, 0))) := Lib.hid (blk_below (by exact Kc3.out) hb)
          have Kp4 : Hid (u3.heap[wd.heap.size]? = some (.cells #[.int .i64 0, .int .i64 0, .int .i64 0] 99 (0, 0))) := Lib.hid (blk_below (by exact Kp3.out) hb)
          have Kr4 : Hid (u3.heap[u1.heap.size]? = some (.cells #[.int .i64 0, .int .i64 0, .int .i64 0] 104 (0, 0))) := Lib.hid (blk_below (by exact Kr3.out) hb)
          have BB4 : Hid (Below w.heap.size w u3) := Lib.hid (Below.trans (by exact BB3.out) (hb.mono (by have := BB3.out.size; simpa using this)))
          clear hb
          refine ⟨_, rfl, ?_⟩
          refine hK.out _ _ (Kc4.out) (fun hHeld => ?_)
          clear hK K
          refine norm_ (a' := ?_) ?_ ?_
          rotate_left
          · show Act.put _ (some 18) _ = _
            simp only [Act.put, List.setIfInBounds_toArray, List.set_cons_zero, List.set_cons_succ, i64_w, i32_w]
            rfl
          exact norm_ (by simp only [putAll, Act.put, List.setIfInBounds_toArray, List.set_cons_zero, List.set_cons_succ]) (hCont (wd.heap.size, u1.heap.size) _ ⟨Kc4.out, Kp4.out, Kr4.out, Lp_c.out, Lr_c.out, Lp.out, Lr.out, Np_r.out, Nr_p.out, BB4.out⟩)
      · skip
        refine value_ (w1 := ?_) (v := ?_) (by rfl) rfl ?_ ?_
        rotate_left 2
        · go_simp
          constructor
          · rfl
          · rfl
        have Kc2 : Hid (((wd.alloc (.cells #[.int .i64 0, .int .i64 0, .int .i64 0] 99 (0, 0))).alloc (.cells #[.int .i64 0, .int .i64 0, .int .i64 0] 104 (0, 0))).heap[w.heap.size]? = some (.cells #[.int .i64 c0, .int .i64 c1, .float .f64 c2, .int .i64 c3, .int .i64 c4, .int .i64 c5, .int .i64 c6, .int .i64 c7, .int .i64 c8, .bool c9, .bool c10] 95 (0, 0))) := Lib.hid (blk_alloc (by exact Kc1.out) _)
        have Kp2 : Hid (((wd.alloc (.cells #[.int .i64 0, .int .i64 0, .int .i64 0] 99 (0, 0))).alloc (.cells #[.int .i64 0, .int .i64 0, .int .i64 0] 104 (0, 0))).heap[wd.heap.size]? = some (.cells #[.int .i64 0, .int .i64 0, .int .i64 0] 99 (0, 0))) := Lib.hid (blk_alloc (by exact Kp1.out) _)
        have Kr2 : Hid (((wd.alloc (.cells #[.int .i64 0, .int .i64 0, .int .i64 0] 99 (0, 0))).alloc (.cells #[.int .i64 0, .int .i64 0, .int .i64 0] 104 (0, 0))).heap[wd.heap.size + 1]? = some (.cells #[.int .i64 0, .int .i64 0, .int .i64 0] 104 (0, 0))) := Lib.hid (new_at _ _ _ (by simp))
        have BB2 : Hid (Below w.heap.size w ((wd.alloc (.cells #[.int .i64 0, .int .i64 0, .int .i64 0] 99 (0, 0))).alloc (.cells #[.int .i64 0, .int .i64 0, .int .i64 0] 104 (0, 0)))) := Lib.hid (Below.alloc (by exact BB1.out) BB1.out.size _)
        have Lr_c : Hid (w.heap.size < wd.heap.size + 1) := Lib.hid (by have := blk_lt Kc1.out; simpa using this)
        have Lr : Hid (w.heap.size ≤ wd.heap.size + 1) := Lib.hid (by have := BB1.out.size; simpa using this)
        have Nr_p : Hid (wd.heap.size + 1 ≠ wd.heap.size) := Lib.hid (by have := blk_lt Kp1.out; simp at this ⊢ <;> omega)
        have Np_r : Hid (wd.heap.size ≠ wd.heap.size + 1) := Lib.hid (Ne.symm Nr_p.out)
        refine hK.out _ _ (Kc2.out) (fun hHeld => ?_)
        clear hK K
        refine norm_ (a' := ?_) ?_ ?_
        rotate_left
        · show Act.put _ (some 8) _ = _
          simp only [Act.put, List.setIfInBounds_toArray, List.set_cons_zero, List.set_cons_succ, i64_w, i32_w]
          rfl
        refine one_ (i := 1) (N := some 16) #[true, true, true, false, true, true, false, false] rfl rfl (one_of HT_.out (by kernel_rfl)) (by decide) (fun K hK => ?_)
        refine goes_ Try.func90 (by kernel_rfl) rfl #[.agg #[.int .i64 c0, .int .i64 c1, .float .f64 c2, .int .i64 c3, .int .i64 c4, .int .i64 c5, .int .i64 c6, .int .i64 c7, .int .i64 c8, .bool c9, .bool c10], .int .i64 0] (by rfl) rfl rfl (by simp only [List.map_toArray, List.map_cons, List.map_nil]; rfl) ?_
        with_reducible refine (H1.out _).mono ?_
        rintro e u1 ⟨rfl, hb⟩
        have Kc3 : Hid (u1.heap[w.heap.size]? = some (.cells #[.int .i64 c0, .int .i64 c1, .float .f64 c2, .int .i64 c3, .int .i64 c4, .int .i64 c5, .int .i64 c6, .int .i64 c7, .int .i64 c8, .bool c9, .bool c10] 95 (0, 0))) := Lib.hid (blk_below (by exact Kc2.out) hb)
        have Kp3 : Hid (u1.heap[wd.heap.size]? = some (.cells #[.int .i64 0, .int .i64 0, .int .i64 0] 99 (0, 0))) := Lib.hid (blk_below (by exact Kp2.out) hb)
        have Kr3 : Hid (u1.heap[wd.heap.size + 1]? = some (.cells #[.int .i64 0, .int .i64 0, .int .i64 0] 104 (0, 0))) := Lib.hid (blk_below (by exact Kr2.out) hb)
        have BB3 : Hid (Below w.heap.size w u1) := Lib.hid (Below.trans (by exact BB2.out) (hb.mono (by have := BB2.out.size; simpa using this)))
        clear hb
        refine ⟨_, rfl, ?_⟩
        refine hK.out _ _ (Kc3.out) (fun hHeld => ?_)
        clear hK K
        refine norm_ (a' := ?_) ?_ ?_
        rotate_left
        · show Act.put _ (some 16) _ = _
          simp only [Act.put, List.setIfInBounds_toArray, List.set_cons_zero, List.set_cons_succ, i64_w, i32_w]
          rfl
        refine one_ (i := 3) (N := some 18) #[true, true, true, true, true, true, false, false] rfl rfl (one_of HT_.out (by kernel_rfl)) (by decide) (fun K hK => ?_)
        refine goes_ Try.func92 (by kernel_rfl) rfl #[.agg #[.int .i64 c0, .int .i64 c1, .float .f64 c2, .int .i64 c3, .int .i64 c4, .int .i64 c5, .int .i64 c6, .int .i64 c7, .int .i64 c8, .bool c9, .bool c10], .int .i64 0] (by rfl) rfl rfl (by simp only [List.map_toArray, List.map_cons, List.map_nil]; rfl) ?_
        with_reducible refine (H2.out _).mono ?_
        rintro e u3 ⟨rfl, hb⟩
        have Kc4 : Hid (u3.heap[w.heap.size]? = some (.cells #[.int .i64 c0, .int .i64 c1, .float .f64 c2, .int .i64 c3, .int .i64 c4, .int .i64 c5, .int .i64 c6, .int .i64 c7, .int .i64 c8, .bool c9, .bool c10] 95 (0, 0))) := Lib.hid (blk_below (by exact Kc3.out) hb)
        have Kp4 : Hid (u3.heap[wd.heap.size]? = some (.cells #[.int .i64 0, .int .i64 0, .int .i64 0] 99 (0, 0))) := Lib.hid (blk_below (by exact Kp3.out) hb)
        have Kr4 : Hid (u3.heap[wd.heap.size + 1]? = some (.cells #[.int .i64 0, .int .i64 0, .int .i64 0] 104 (0, 0))) := Lib.hid (blk_below (by exact Kr3.out) hb)
        have BB4 : Hid (Below w.heap.size w u3) := Lib.hid (Below.trans (by exact BB3.out) (hb.mono (by have := BB3.out.size; simpa using this)))
        clear hb
        refine ⟨_, rfl, ?_⟩
        refine hK.out _ _ (Kc4.out) (fun hHeld => ?_)
        clear hK K
        refine norm_ (a' := ?_) ?_ ?_
        rotate_left
        · show Act.put _ (some 18) _ = _
          simp only [Act.put, List.setIfInBounds_toArray, List.set_cons_zero, List.set_cons_succ, i64_w, i32_w]
          rfl
        exact norm_ (by simp only [putAll, Act.put, List.setIfInBounds_toArray, List.set_cons_zero, List.set_cons_succ]) (hCont (wd.heap.size, wd.heap.size + 1) _ ⟨Kc4.out, Kp4.out, Kr4.out, Lp_c.out, Lr_c.out, Lp.out, Lr.out, Np_r.out, Nr_p.out, BB4.out⟩)
    · skip
      refine value_ (w1 := ?_) (v := ?_) (by rfl) rfl ?_ ?_
      rotate_left 2
      · go_simp
        constructor
        · rfl
        · rfl
      have Kc1 : Hid ((wd.alloc (.cells #[.int .i64 0, .int .i64 0, .int .i64 0] 104 (0, 0))).heap[w.heap.size]? = some (.cells #[.int .i64 c0, .int .i64 c1, .float .f64 c2, .int .i64 c3, .int .i64 c4, .int .i64 c5, .int .i64 c6, .int .i64 c7, .int .i64 c8, .bool c9, .bool c10] 95 (0, 0))) := Lib.hid (blk_alloc (by exact Kc0.out) _)
      have Kr1 : Hid ((wd.alloc (.cells #[.int .i64 0, .int .i64 0, .int .i64 0] 104 (0, 0))).heap[wd.heap.size]? = some (.cells #[.int .i64 0, .int .i64 0, .int .i64 0] 104 (0, 0))) := Lib.hid (new_at _ _ _ (by simp))
      have BB1 : Hid (Below w.heap.size w (wd.alloc (.cells #[.int .i64 0, .int .i64 0, .int .i64 0] 104 (0, 0)))) := Lib.hid (Below.alloc (by exact BB0.out) BB0.out.size _)
      have Lr_c : Hid (w.heap.size < wd.heap.size) := Lib.hid (by have := blk_lt Kc0.out; simpa using this)
      have Lr : Hid (w.heap.size ≤ wd.heap.size) := Lib.hid (by have := BB0.out.size; simpa using this)
      refine hK.out _ _ (Kc1.out) (fun hHeld => ?_)
      clear hK K
      refine norm_ (a' := ?_) ?_ ?_
      rotate_left
      · show Act.put _ (some 8) _ = _
        simp only [Act.put, List.setIfInBounds_toArray, List.set_cons_zero, List.set_cons_succ, i64_w, i32_w]
        rfl
      refine two_ (i := 1) (j := 4) (Ni := some 16) (Nj := some 7) #[true, true, true, false, false, true, false, false] #[true, false, true, false, true, true, false, false] rfl rfl rfl rfl (two_of HT_.out (by kernel_rfl)) (by decide) (by decide) (fun K hK => ?_) (fun K hK => ?_)
      · skip
        refine goes_ Try.func90 (by kernel_rfl) rfl #[.agg #[.int .i64 c0, .int .i64 c1, .float .f64 c2, .int .i64 c3, .int .i64 c4, .int .i64 c5, .int .i64 c6, .int .i64 c7, .int .i64 c8, .bool c9, .bool c10], .int .i64 0] (by rfl) rfl rfl (by simp only [List.map_toArray, List.map_cons, List.map_nil]; rfl) ?_
        with_reducible refine (H1.out _).mono ?_
        rintro e u1 ⟨rfl, hb⟩
        have Kc2 : Hid (u1.heap[w.heap.size]? = some (.cells #[.int .i64 c0, .int .i64 c1, .float .f64 c2, .int .i64 c3, .int .i64 c4, .int .i64 c5, .int .i64 c6, .int .i64 c7, .int .i64 c8, .bool c9, .bool c10] 95 (0, 0))) := Lib.hid (blk_below (by exact Kc1.out) hb)
        have Kr2 : Hid (u1.heap[wd.heap.size]? = some (.cells #[.int .i64 0, .int .i64 0, .int .i64 0] 104 (0, 0))) := Lib.hid (blk_below (by exact Kr1.out) hb)
        have BB2 : Hid (Below w.heap.size w u1) := Lib.hid (Below.trans (by exact BB1.out) (hb.mono (by have := BB1.out.size; simpa using this)))
        clear hb
        refine ⟨_, rfl, ?_⟩
        refine hK.out _ _ (Kc2.out) (fun hHeld => ?_)
        clear hK K
        refine norm_ (a' := ?_) ?_ ?_
        rotate_left
        · show Act.put _ (some 16) _ = _
          simp only [Act.put, List.setIfInBounds_toArray, List.set_cons_zero, List.set_cons_succ, i64_w, i32_w]
          rfl
        refine two_ (i := 3) (j := 4) (Ni := some 18) (Nj := some 7) #[true, true, true, true, false, true, false, false] #[true, true, true, false, true, true, false, false] rfl rfl rfl rfl (two_of HT_.out (by kernel_rfl)) (by decide) (by decide) (fun K hK => ?_) (fun K hK => ?_)
        · skip
          refine goes_ Try.func92 (by kernel_rfl) rfl #[.agg #[.int .i64 c0, .int .i64 c1, .float .f64 c2, .int .i64 c3, .int .i64 c4, .int .i64 c5, .int .i64 c6, .int .i64 c7, .int .i64 c8, .bool c9, .bool c10], .int .i64 0] (by rfl) rfl rfl (by simp only [List.map_toArray, List.map_cons, List.map_nil]; rfl) ?_
          with_reducible refine (H2.out _).mono ?_
          rintro e u3 ⟨rfl, hb⟩
          have Kc3 : Hid (u3.heap[w.heap.size]? = some (.cells #[.int .i64 c0, .int .i64 c1, .float .f64 c2, .int .i64 c3, .int .i64 c4, .int .i64 c5, .int .i64 c6, .int .i64 c7, .int .i64 c8, .bool c9, .bool c10] 95 (0, 0))) := Lib.hid (blk_below (by exact Kc2.out) hb)
          have Kr3 : Hid (u3.heap[wd.heap.size]? = some (.cells #[.int .i64 0, .int .i64 0, .int .i64 0] 104 (0, 0))) := Lib.hid (blk_below (by exact Kr2.out) hb)
          have BB3 : Hid (Below w.heap.size w u3) := Lib.hid (Below.trans (by exact BB2.out) (hb.mono (by have := BB2.out.size; simpa using this)))
          clear hb
          refine ⟨_, rfl, ?_⟩
          refine hK.out _ _ (Kc3.out) (fun hHeld => ?_)
          clear hK K
          refine norm_ (a' := ?_) ?_ ?_
          rotate_left
          · show Act.put _ (some 18) _ = _
            simp only [Act.put, List.setIfInBounds_toArray, List.set_cons_zero, List.set_cons_succ, i64_w, i32_w]
            rfl
          refine one_ (i := 4) (N := some 7) #[true, true, true, true, true, true, false, false] rfl rfl (one_of HT_.out (by kernel_rfl)) (by decide) (fun K hK => ?_)
          refine value_ (w1 := ?_) (v := ?_) (by rfl) rfl ?_ ?_
          rotate_left 2
          · go_simp
            constructor
            · rfl
            · rfl
          have Kc4 : Hid ((u3.alloc (.cells #[.int .i64 0, .int .i64 0, .int .i64 0] 99 (0, 0))).heap[w.heap.size]? = some (.cells #[.int .i64 c0, .int .i64 c1, .float .f64 c2, .int .i64 c3, .int .i64 c4, .int .i64 c5, .int .i64 c6, .int .i64 c7, .int .i64 c8, .bool c9, .bool c10] 95 (0, 0))) := Lib.hid (blk_alloc (by exact Kc3.out) _)
          have Kr4 : Hid ((u3.alloc (.cells #[.int .i64 0, .int .i64 0, .int .i64 0] 99 (0, 0))).heap[wd.heap.size]? = some (.cells #[.int .i64 0, .int .i64 0, .int .i64 0] 104 (0, 0))) := Lib.hid (blk_alloc (by exact Kr3.out) _)
          have Kp4 : Hid ((u3.alloc (.cells #[.int .i64 0, .int .i64 0, .int .i64 0] 99 (0, 0))).heap[u3.heap.size]? = some (.cells #[.int .i64 0, .int .i64 0, .int .i64 0] 99 (0, 0))) := Lib.hid (new_at _ _ _ (by simp))
          have BB4 : Hid (Below w.heap.size w (u3.alloc (.cells #[.int .i64 0, .int .i64 0, .int .i64 0] 99 (0, 0)))) := Lib.hid (Below.alloc (by exact BB3.out) BB3.out.size _)
          have Lp_c : Hid (w.heap.size < u3.heap.size) := Lib.hid (by have := blk_lt Kc3.out; simpa using this)
          have Lp : Hid (w.heap.size ≤ u3.heap.size) := Lib.hid (by have := BB3.out.size; simpa using this)
          have Np_r : Hid (u3.heap.size ≠ wd.heap.size) := Lib.hid (by have := blk_lt Kr3.out; simp at this ⊢ <;> omega)
          have Nr_p : Hid (wd.heap.size ≠ u3.heap.size) := Lib.hid (Ne.symm Np_r.out)
          refine hK.out _ _ (Kc4.out) (fun hHeld => ?_)
          clear hK K
          refine norm_ (a' := ?_) ?_ ?_
          rotate_left
          · show Act.put _ (some 7) _ = _
            simp only [Act.put, List.setIfInBounds_toArray, List.set_cons_zero, List.set_cons_succ, i64_w, i32_w]
            rfl
          exact norm_ (by simp only [putAll, Act.put, List.setIfInBounds_toArray, List.set_cons_zero, List.set_cons_succ]) (hCont (u3.heap.size, wd.heap.size) _ ⟨Kc4.out, Kp4.out, Kr4.out, Lp_c.out, Lr_c.out, Lp.out, Lr.out, Np_r.out, Nr_p.out, BB4.out⟩)
        · skip
          refine value_ (w1 := ?_) (v := ?_) (by rfl) rfl ?_ ?_
          rotate_left 2
          · go_simp
            constructor
            · rfl
            · rfl
          have Kc3 : Hid ((u1.alloc (.cells #[.int .i64 0, .int .i64 0, .int .i64 0] 99 (0, 0))).heap[w.heap.size]? = some (.cells #[.int .i64 c0, .int .i64 c1, .float .f64 c2, .int .i64 c3, .int .i64 c4, .int .i64 c5, .int .i64 c6, .int .i64 c7, .int .i64 c8, .bool c9, .bool c10] 95 (0, 0))) := Lib.hid (blk_alloc (by exact Kc2.out) _)
          have Kr3 : Hid ((u1.alloc (.cells #[.int .i64 0, .int .i64 0, .int .i64 0] 99 (0, 0))).heap[wd.heap.size]? = some (.cells #[.int .i64 0, .int .i64 0, .int .i64 0] 104 (0, 0))) := Lib.hid (blk_alloc (by exact Kr2.out) _)
          have Kp3 : Hid ((u1.alloc (.cells #[.int .i64 0, .int .i64 0, .int .i64 0] 99 (0, 0))).heap[u1.heap.size]? = some (.cells #[.int .i64 0, .int .i64 0, .int .i64 0] 99 (0, 0))) := Lib.hid (new_at _ _ _ (by simp))
          have BB3 : Hid (Below w.heap.size w (u1.alloc (.cells #[.int .i64 0, .int .i64 0, .int .i64 0] 99 (0, 0)))) := Lib.hid (Below.alloc (by exact BB2.out) BB2.out.size _)
          have Lp_c : Hid (w.heap.size < u1.heap.size) := Lib.hid (by have := blk_lt Kc2.out; simpa using this)
          have Lp : Hid (w.heap.size ≤ u1.heap.size) := Lib.hid (by have := BB2.out.size; simpa using this)
          have Np_r : Hid (u1.heap.size ≠ wd.heap.size) := Lib.hid (by have := blk_lt Kr2.out; simp at this ⊢ <;> omega)
          have Nr_p : Hid (wd.heap.size ≠ u1.heap.size) := Lib.hid (Ne.symm Np_r.out)
          refine hK.out _ _ (Kc3.out) (fun hHeld => ?_)
          clear hK K
          refine norm_ (a' := ?_) ?_ ?_
          rotate_left
          · show Act.put _ (some 7) _ = _
            simp only [Act.put, List.setIfInBounds_toArray, List.set_cons_zero, List.set_cons_succ, i64_w, i32_w]
            rfl
          refine one_ (i := 3) (N := some 18) #[true, true, true, true, true, true, false, false] rfl rfl (one_of HT_.out (by kernel_rfl)) (by decide) (fun K hK => ?_)
          refine goes_ Try.func92 (by kernel_rfl) rfl #[.agg #[.int .i64 c0, .int .i64 c1, .float .f64 c2, .int .i64 c3, .int .i64 c4, .int .i64 c5, .int .i64 c6, .int .i64 c7, .int .i64 c8, .bool c9, .bool c10], .int .i64 0] (by rfl) rfl rfl (by simp only [List.map_toArray, List.map_cons, List.map_nil]; rfl) ?_
          with_reducible refine (H2.out _).mono ?_
          rintro e u3 ⟨rfl, hb⟩
          have Kc4 : Hid (u3.heap[w.heap.size]? = some (.cells #[.int .i64 c0, .int .i64 c1, .float .f64 c2, .int .i64 c3, .int .i64 c4, .int .i64 c5, .int .i64 c6, .int .i64 c7, .int .i64 c8, .bool c9, .bool c10] 95 (0, 0))) := Lib.hid (blk_below (by exact Kc3.out) hb)
          have Kr4 : Hid (u3.heap[wd.heap.size]? = some (.cells #[.int .i64 0, .int .i64 0, .int .i64 0] 104 (0, 0))) := Lib.hid (blk_below (by exact Kr3.out) hb)
          have Kp4 : Hid (u3.heap[u1.heap.size]? = some (.cells #[.int .i64 0, .int .i64 0, .int .i64 0] 99 (0, 0))) := Lib.hid (blk_below (by exact Kp3.out) hb)
          have BB4 : Hid (Below w.heap.size w u3) := Lib.hid (Below.trans (by exact BB3.out) (hb.mono (by have := BB3.out.size; simpa using this)))
          clear hb
          refine ⟨_, rfl, ?_⟩
          refine hK.out _ _ (Kc4.out) (fun hHeld => ?_)
          clear hK K
          refine norm_ (a' := ?_) ?_ ?_
          rotate_left
          · show Act.put _ (some 18) _ = _
            simp only [Act.put, List.setIfInBounds_toArray, List.set_cons_zero, List.set_cons_succ, i64_w, i32_w]
            rfl
          exact norm_ (by simp only [putAll, Act.put, List.setIfInBounds_toArray, List.set_cons_zero, List.set_cons_succ]) (hCont (u1.heap.size, wd.heap.size) _ ⟨Kc4.out, Kp4.out, Kr4.out, Lp_c.out, Lr_c.out, Lp.out, Lr.out, Np_r.out, Nr_p.out, BB4.out⟩)
      · skip
        refine value_ (w1 := ?_) (v := ?_) (by rfl) rfl ?_ ?_
        rotate_left 2
        · go_simp
          constructor
          · rfl
          · rfl
        have Kc2 : Hid (((wd.alloc (.cells #[.int .i64 0, .int .i64 0, .int .i64 0] 104 (0, 0))).alloc (.cells #[.int .i64 0, .int .i64 0, .int .i64 0] 99 (0, 0))).heap[w.heap.size]? = some (.cells #[.int .i64 c0, .int .i64 c1, .float .f64 c2, .int .i64 c3, .int .i64 c4, .int .i64 c5, .int .i64 c6, .int .i64 c7, .int .i64 c8, .bool c9, .bool c10] 95 (0, 0))) := Lib.hid (blk_alloc (by exact Kc1.out) _)
        have Kr2 : Hid (((wd.alloc (.cells #[.int .i64 0, .int .i64 0, .int .i64 0] 104 (0, 0))).alloc (.cells #[.int .i64 0, .int .i64 0, .int .i64 0] 99 (0, 0))).heap[wd.heap.size]? = some (.cells #[.int .i64 0, .int .i64 0, .int .i64 0] 104 (0, 0))) := Lib.hid (blk_alloc (by exact Kr1.out) _)
        have Kp2 : Hid (((wd.alloc (.cells #[.int .i64 0, .int .i64 0, .int .i64 0] 104 (0, 0))).alloc (.cells #[.int .i64 0, .int .i64 0, .int .i64 0] 99 (0, 0))).heap[wd.heap.size + 1]? = some (.cells #[.int .i64 0, .int .i64 0, .int .i64 0] 99 (0, 0))) := Lib.hid (new_at _ _ _ (by simp))
        have BB2 : Hid (Below w.heap.size w ((wd.alloc (.cells #[.int .i64 0, .int .i64 0, .int .i64 0] 104 (0, 0))).alloc (.cells #[.int .i64 0, .int .i64 0, .int .i64 0] 99 (0, 0)))) := Lib.hid (Below.alloc (by exact BB1.out) BB1.out.size _)
        have Lp_c : Hid (w.heap.size < wd.heap.size + 1) := Lib.hid (by have := blk_lt Kc1.out; simpa using this)
        have Lp : Hid (w.heap.size ≤ wd.heap.size + 1) := Lib.hid (by have := BB1.out.size; simpa using this)
        have Np_r : Hid (wd.heap.size + 1 ≠ wd.heap.size) := Lib.hid (by have := blk_lt Kr1.out; simp at this ⊢ <;> omega)
        have Nr_p : Hid (wd.heap.size ≠ wd.heap.size + 1) := Lib.hid (Ne.symm Np_r.out)
        refine hK.out _ _ (Kc2.out) (fun hHeld => ?_)
        clear hK K
        refine norm_ (a' := ?_) ?_ ?_
        rotate_left
        · show Act.put _ (some 7) _ = _
          simp only [Act.put, List.setIfInBounds_toArray, List.set_cons_zero, List.set_cons_succ, i64_w, i32_w]
          rfl
        refine one_ (i := 1) (N := some 16) #[true, true, true, false, true, true, false, false] rfl rfl (one_of HT_.out (by kernel_rfl)) (by decide) (fun K hK => ?_)
        refine goes_ Try.func90 (by kernel_rfl) rfl #[.agg #[.int .i64 c0, .int .i64 c1, .float .f64 c2, .int .i64 c3, .int .i64 c4, .int .i64 c5, .int .i64 c6, .int .i64 c7, .int .i64 c8, .bool c9, .bool c10], .int .i64 0] (by rfl) rfl rfl (by simp only [List.map_toArray, List.map_cons, List.map_nil]; rfl) ?_
        with_reducible refine (H1.out _).mono ?_
        rintro e u1 ⟨rfl, hb⟩
        have Kc3 : Hid (u1.heap[w.heap.size]? = some (.cells #[.int .i64 c0, .int .i64 c1, .float .f64 c2, .int .i64 c3, .int .i64 c4, .int .i64 c5, .int .i64 c6, .int .i64 c7, .int .i64 c8, .bool c9, .bool c10] 95 (0, 0))) := Lib.hid (blk_below (by exact Kc2.out) hb)
        have Kr3 : Hid (u1.heap[wd.heap.size]? = some (.cells #[.int .i64 0, .int .i64 0, .int .i64 0] 104 (0, 0))) := Lib.hid (blk_below (by exact Kr2.out) hb)
        have Kp3 : Hid (u1.heap[wd.heap.size + 1]? = some (.cells #[.int .i64 0, .int .i64 0, .int .i64 0] 99 (0, 0))) := Lib.hid (blk_below (by exact Kp2.out) hb)
        have BB3 : Hid (Below w.heap.size w u1) := Lib.hid (Below.trans (by exact BB2.out) (hb.mono (by have := BB2.out.size; simpa using this)))
        clear hb
        refine ⟨_, rfl, ?_⟩
        refine hK.out _ _ (Kc3.out) (fun hHeld => ?_)
        clear hK K
        refine norm_ (a' := ?_) ?_ ?_
        rotate_left
        · show Act.put _ (some 16) _ = _
          simp only [Act.put, List.setIfInBounds_toArray, List.set_cons_zero, List.set_cons_succ, i64_w, i32_w]
          rfl
        refine one_ (i := 3) (N := some 18) #[true, true, true, true, true, true, false, false] rfl rfl (one_of HT_.out (by kernel_rfl)) (by decide) (fun K hK => ?_)
        refine goes_ Try.func92 (by kernel_rfl) rfl #[.agg #[.int .i64 c0, .int .i64 c1, .float .f64 c2, .int .i64 c3, .int .i64 c4, .int .i64 c5, .int .i64 c6, .int .i64 c7, .int .i64 c8, .bool c9, .bool c10], .int .i64 0] (by rfl) rfl rfl (by simp only [List.map_toArray, List.map_cons, List.map_nil]; rfl) ?_
        with_reducible refine (H2.out _).mono ?_
        rintro e u3 ⟨rfl, hb⟩
        have Kc4 : Hid (u3.heap[w.heap.size]? = some (.cells #[.int .i64 c0, .int .i64 c1, .float .f64 c2, .int .i64 c3, .int .i64 c4, .int .i64 c5, .int .i64 c6, .int .i64 c7, .int .i64 c8, .bool c9, .bool c10] 95 (0, 0))) := Lib.hid (blk_below (by exact Kc3.out) hb)
        have Kr4 : Hid (u3.heap[wd.heap.size]? = some (.cells #[.int .i64 0, .int .i64 0, .int .i64 0] 104 (0, 0))) := Lib.hid (blk_below (by exact Kr3.out) hb)
        have Kp4 : Hid (u3.heap[wd.heap.size + 1]? = some (.cells #[.int .i64 0, .int .i64 0, .int .i64 0] 99 (0, 0))) := Lib.hid (blk_below (by exact Kp3.out) hb)
        have BB4 : Hid (Below w.heap.size w u3) := Lib.hid (Below.trans (by exact BB3.out) (hb.mono (by have := BB3.out.size; simpa using this)))
        clear hb
        refine ⟨_, rfl, ?_⟩
        refine hK.out _ _ (Kc4.out) (fun hHeld => ?_)
        clear hK K
        refine norm_ (a' := ?_) ?_ ?_
        rotate_left
        · show Act.put _ (some 18) _ = _
          simp only [Act.put, List.setIfInBounds_toArray, List.set_cons_zero, List.set_cons_succ, i64_w, i32_w]
          rfl
        exact norm_ (by simp only [putAll, Act.put, List.setIfInBounds_toArray, List.set_cons_zero, List.set_cons_succ]) (hCont (wd.heap.size + 1, wd.heap.size) _ ⟨Kc4.out, Kp4.out, Kr4.out, Lp_c.out, Lr_c.out, Lp.out, Lr.out, Np_r.out, Nr_p.out, BB4.out⟩)
  rintro ⟨gp, gr⟩ wj ⟨s0, kp, kr, lp_c, lr_c, lp, lr, np_r, nr_p, bj⟩
  have Kp := Lib.hid kp; have Kr := Lib.hid kr; have Lp_c := Lib.hid lp_c; have Lr_c := Lib.hid lr_c; have Lp := Lib.hid lp; have Lr := Lib.hid lr; have Np_r := Lib.hid np_r; have Nr_p := Lib.hid nr_p; have BJ := Lib.hid bj; have Kcj := Lib.hid s0
  clear kp kr lp_c lr_c lp lr np_r nr_p bj
  have hHeld : wj.heap[w.heap.size]? = some (.cells #[.int .i64 c0, .int .i64 c1, .float .f64 c2, .int .i64 c3, .int .i64 c4, .int .i64 c5, .int .i64 c6, .int .i64 c7, .int .i64 c8, .bool c9, .bool c10] 95 (0, 0)) := s0
  clear s0
  refine norm_ (a' := ?_) ?_ ?_
  rotate_left
  · simp only [putAll, Act.put, List.setIfInBounds_toArray, List.set_cons_zero, List.set_cons_succ]
    rfl
  refine last_ (i := 6) (N := none) #[true, true, true, true, true, true, true, false] rfl rfl (one_of HT_.out (by kernel_rfl)) (by decide) (fun K hK => ?_)
  rw [if_pos (by rfl)]
  refine wp_store_row 99 (.tmp 7) (.tmp 16) rfl gp #[.int .i64 (n).1, .int .i64 (n).2.1, .int .i64 (n).2.2] rfl rfl 99 _ Kp.out (by exact info_s) (by rfl) (by simp [Value.oneCell']) ?_
  refine hK.out _ _ ?_
  clear hK K
  refine last_ (i := 7) (N := none) #[true, true, true, true, true, true, true, true] rfl rfl (one_of HT_.out (by kernel_rfl)) (by decide) (fun K hK => ?_)
  rw [if_pos (by rfl)]
  refine wp_store_row 104 (.tmp 8) (.tmp 18) rfl gr #[.int .i64 (n).1, .int .i64 (n).2.1, .int .i64 (n).2.2] rfl rfl 104 _ ((setRow_other _ gp gr #[.int .i64 (n).1, .int .i64 (n).2.1, .int .i64 (n).2.2] Nr_p.out).trans Kr.out) (by exact info_r) (by rfl) (by simp [Value.oneCell']) ?_
  refine hK.out _ _ ?_
  clear hK K
  refine done_ (done_of HT_.out (by kernel_rfl)) ?_
  have Kcz : Hid (((wj.setRow gp #[.int .i64 (n).1, .int .i64 (n).2.1, .int .i64 (n).2.2]).setRow gr #[.int .i64 (n).1, .int .i64 (n).2.1, .int .i64 (n).2.2]).heap[w.heap.size]? = some (.cells #[.int .i64 c0, .int .i64 c1, .float .f64 c2, .int .i64 c3, .int .i64 c4, .int .i64 c5, .int .i64 c6, .int .i64 c7, .int .i64 c8, .bool c9, .bool c10] 95 (0, 0))) := Lib.hid ((setRow_other _ gr _ _ (by have := Lr_c.out; omega)).trans ((setRow_other _ gp _ _ (by have := Lp_c.out; omega)).trans Kcj.out))
  have Kpz : Hid (((wj.setRow gp #[.int .i64 (n).1, .int .i64 (n).2.1, .int .i64 (n).2.2]).setRow gr #[.int .i64 (n).1, .int .i64 (n).2.1, .int .i64 (n).2.2]).heap[gp]? = some (.cells #[.int .i64 (n).1, .int .i64 (n).2.1, .int .i64 (n).2.2] 99 (0, 0))) := Lib.hid ((setRow_other _ gr _ _ Np_r.out).trans (setRow_heap _ gp _ _ 99 _ Kp.out))
  have Krz : Hid (((wj.setRow gp #[.int .i64 (n).1, .int .i64 (n).2.1, .int .i64 (n).2.2]).setRow gr #[.int .i64 (n).1, .int .i64 (n).2.1, .int .i64 (n).2.2]).heap[gr]? = some (.cells #[.int .i64 (n).1, .int .i64 (n).2.1, .int .i64 (n).2.2] 104 (0, 0))) := Lib.hid (setRow_heap _ gr _ _ 104 _ ((setRow_other _ gp _ _ Nr_p.out).trans Kr.out))
  have BZ : Hid (Below w.heap.size w ((wj.setRow gp #[.int .i64 (n).1, .int .i64 (n).2.1, .int .i64 (n).2.2]).setRow gr #[.int .i64 (n).1, .int .i64 (n).2.1, .int .i64 (n).2.2])) := Lib.hid (below_setRow (below_setRow BJ.out Lp.out _) Lr.out _)
  have LC : Hid (w.heap.size ≠ gr) := Lib.hid (by have := Lr_c.out; omega)
  clear BJ hHeld Kcj Kp Kr Lp_c Lr_c Lp Nr_p
  revert Kcz Kpz Krz BZ
  generalize ((wj.setRow gp #[.int .i64 (n).1, .int .i64 (n).2.1, .int .i64 (n).2.2]).setRow gr #[.int .i64 (n).1, .int .i64 (n).2.1, .int .i64 (n).2.2]) = wz
  intro Kcz Kpz Krz BZ
  try simp only [Act.put]
  go_wp2
  go_loopw [21] (fun i wr => ∃ k : Nat, k ≤ l.length ∧ i = .int .i64 k ∧ Hid (wr.heap[w.heap.size]? = some (.cells #[.int .i64 c0, .int .i64 c1, .float .f64 c2, .int .i64 c3, .int .i64 c4, .int .i64 c5, .int .i64 c6, .int .i64 c7, .int .i64 c8, .bool c9, .bool c10] 95 (0, 0))) ∧ Hid (wr.heap[gp]? = some (.cells #[.int .i64 (n).1, .int .i64 (n).2.1, .int .i64 (n).2.2] 99 (0, 0))) ∧ Hid (wr.heap[gr]? = some (.cells #[.int .i64 (fst F n (l.take k)).1, .int .i64 (fst F n (l.take k)).2.1, .int .i64 (fst F n (l.take k)).2.2] 104 (0, 0))) ∧ Hid (Below w.heap.size w wr)) (fun i _ => l.length - (intOf i).toNat)
  case atStart => exact ⟨0, by omega, rfl, Kcz, Kpz, Krz, BZ⟩
  case round =>
    obtain ⟨k, hk, rfl, Kc, Kp, Kr, BB⟩ := hrel
    by_cases hlt : k < l.length
    · have HNk := Lib.hid (HN.out k hlt)
      obtain ⟨ad, hA, hcell⟩ := Kd.at_int HR.out (k : Int) (by omega) (by omega)
      subst hA
      replace hcell := pw_cell_below BB.out hcell
      rw [Int.toNat_natCast] at hcell
      have hx : rd l (k : Int) = l.getD k 0 := rfl
      rw [hx] at hcell
      generalize l.getD k 0 = x at hcell HNk
      generalize hq : fst F n (l.take k) = q at Kr HNk
      clear hq hx
      go_wp2_with ((with_reducible refine gate_dst (N := 25) rfl ?_); refine wpList_load_row rfl 104 (.tmp 8) rfl gr rfl 104 #[.int .i64 (q).1, .int .i64 (q).2.1, .int .i64 (q).2.2] (0, 0) _ Kr.out Try.underlying104 rfl info_r ?_; refine wpList_load_row rfl 95 (.tmp 3) rfl (w.heap.size) rfl 95 #[.int .i64 c0, .int .i64 c1, .float .f64 c2, .int .i64 c3, .int .i64 c4, .int .i64 c5, .int .i64 c6, .int .i64 c7, .int .i64 c8, .bool c9, .bool c10] (0, 0) _ Kc.out Try.underlying95 rfl info_c ?_)
      (with_reducible refine (HS.out _ _ _).mono ?_); rintro e w1 ⟨rfl, hb⟩
      have Kc1 := Lib.hid (blk_below Kc.out hb); have Kp1 := Lib.hid (blk_below Kp.out hb); have Kr1 := Lib.hid (blk_below Kr.out hb)
      have BB1 : Hid (Below w.heap.size w w1) := Lib.hid (Below.trans BB.out (hb.mono BB.out.size))
      clear hb hcell
      go_wp2_with (refine wpList_store_rowTo rfl 104 (.tmp 8) (.tmp 29) rfl rfl gr #[.int .i64 (F q x).1, .int .i64 (F q x).2.1, .int .i64 (F q x).2.2] rfl rfl 104 #[.int .i64 (q).1, .int .i64 (q).2.1, .int .i64 (q).2.2] Kr1.out info_r rfl (by simp [Value.oneCell']) ?_)
      go_roundw
      case rel => exact ⟨k + 1, by omega, by go_num, Lib.hid ((setRow_other _ _ _ _ LC.out).trans Kc1.out), Lib.hid ((setRow_other _ _ _ _ Np_r.out).trans Kp1.out), Lib.hid (by rw [HNk.out]; exact setRow_heap _ _ _ _ 104 _ Kr1.out), Lib.hid (below_setRow BB1.out Lr.out _)⟩
      case measure => simp [intOf]; omega
    · have hk2 : k = l.length := by omega
      have Kr0 : Hid (wr.heap[gr]? = some (.cells #[.int .i64 (fst F n l).1, .int .i64 (fst F n l).2.1, .int .i64 (fst F n l).2.2] 104 (0, 0))) := Lib.hid (by have := Kr.out; rw [hk2, List.take_length] at this; exact this)
      clear Kr
      have Kc0 := Kc; have Kp0 := Kp; have BB0 := BB; clear Kc Kp BB
      go_wp2_with fail
      refine start_ (n := 11) (S := fun w' => w'.heap[w.heap.size]? = some (.cells #[.int .i64 c0, .int .i64 c1, .float .f64 c2, .int .i64 c3, .int .i64 c4, .int .i64 c5, .int .i64 c6, .int .i64 c7, .int .i64 c8, .bool c9, .bool c10] 95 (0, 0)) ∧ w'.heap[gp]? = some (.cells #[.int .i64 (n).1, .int .i64 (n).2.1, .int .i64 (n).2.2] 99 (0, 0)) ∧ w'.heap[gr]? = some (.cells #[.int .i64 (fst F n l).1, .int .i64 (fst F n l).2.1, .int .i64 (fst F n l).2.2] 104 (0, 0))) (ds := []) #[false, false, false, false, false, false, false, false, false, false, false] (by kernel_rfl) rfl rfl ⟨Kc0.out, Kp0.out, Kr0.out⟩ (fun hHeld => ?_)
      refine with_tabW rgnIdlePaced.tab9 rgnIdlePaced.bits9 (fun HT_ HW_ => ?_)
      have nb_ := Lib.hid (below_drew1 BB0.out); clear BB0; have BB0 := nb_; clear nb_
      have n0_ := Lib.hid (blk_drew Kc0.out); have n1_ := Lib.hid (blk_drew Kp0.out); have n2_ := Lib.hid (blk_drew Kr0.out); clear Kc0 Kp0 Kr0; have Kc0 := n0_; have Kp0 := n1_; have Kr0 := n2_; clear n0_ n1_ n2_
      revert Kc0 Kp0 Kr0 BB0 hHeld
      generalize wr.drew = wd
      intro hHeld BB0 Kc0 Kp0 Kr0
      refine pure_ (i := 2) (N := some 33) (v := ?_) (a' := ?_) #[false, false, true, false, false, false, false, false, false, false, false] rfl rfl (any_of HT_.out (by kernel_rfl)) (fun _ _ _ h => h) (Or.inl ⟨by rfl, ?_⟩) ?_ ?_
      rotate_left
      · intro w'
        go_simp
        with_reducible rfl
      rotate_left
      · simp only [Act.put, List.setIfInBounds_toArray, List.set_cons_zero, List.set_cons_succ, i64_w, i32_w]
        rfl
      refine pure_ (i := 3) (N := some 34) (v := ?_) (a' := ?_) #[false, false, true, true, false, false, false, false, false, false, false] rfl rfl (any_of HT_.out (by kernel_rfl)) (fun _ _ _ h => h) (Or.inl ⟨by rfl, ?_⟩) ?_ ?_
      rotate_left
      · intro w'
        go_simp
        with_reducible rfl
      rotate_left
      · simp only [Act.put, List.setIfInBounds_toArray, List.set_cons_zero, List.set_cons_succ, i64_w, i32_w]
        rfl
      refine take_ (i := 0) (N := some 31) (v := ?_) (a' := ?_) #[true, false, true, true, false, false, false, false, false, false, false] rfl rfl (take_ofW HT_.out HW_.out (by kernel_rfl)) (fun _ _ _ h => h) (Or.inl ⟨by rfl, ?_⟩) hHeld ?_ ?_
      rotate_left
      · rintro w' ⟨s0, s1, s2⟩
        exact (ldrow (P := Try.prog) 99 _ _ Try.underlying99 rfl (by exact info_p) _ _ (.tmp 7) _ rfl (by rfl) w' s1).trans (by with_reducible rfl)
      rotate_left
      · simp only [Act.put, List.setIfInBounds_toArray, List.set_cons_zero, List.set_cons_succ, i64_w, i32_w]
        rfl
      refine take_ (i := 1) (N := some 32) (v := ?_) (a' := ?_) #[true, true, true, true, false, false, false, false, false, false, false] rfl rfl (take_ofW HT_.out HW_.out (by kernel_rfl)) (fun _ _ _ h => h) (Or.inl ⟨by rfl, ?_⟩) hHeld ?_ ?_
      rotate_left
      · rintro w' ⟨s0, s1, s2⟩
        exact (ldrow (P := Try.prog) 95 _ _ Try.underlying95 rfl (by exact info_c) _ _ (.tmp 3) _ rfl (by rfl) w' s0).trans (by with_reducible rfl)
      rotate_left
      · simp only [Act.put, List.setIfInBounds_toArray, List.set_cons_zero, List.set_cons_succ, i64_w, i32_w]
        rfl
      refine take_ (i := 5) (N := some 36) (v := ?_) (a' := ?_) #[true, true, true, true, false, true, false, false, false, false, false] rfl rfl (take_ofW HT_.out HW_.out (by kernel_rfl)) (fun _ _ _ h => h) (Or.inl ⟨by rfl, ?_⟩) hHeld ?_ ?_
      rotate_left
      · rintro w' ⟨s0, s1, s2⟩
        exact (ldrow (P := Try.prog) 104 _ _ Try.underlying104 rfl (by exact info_r) _ _ (.tmp 8) _ rfl (by rfl) w' s2).trans (by with_reducible rfl)
      rotate_left
      · simp only [Act.put, List.setIfInBounds_toArray, List.set_cons_zero, List.set_cons_succ, i64_w, i32_w]
        rfl
      refine one_ (i := 4) (N := some 35) #[true, true, true, true, true, true, false, false, false, false, false] rfl rfl (one_of HT_.out (by kernel_rfl)) (by decide) (fun K hK => ?_)
      refine goes_ Try.func94 (by kernel_rfl) rfl #[.agg #[.int .i64 (n).1, .int .i64 (n).2.1, .int .i64 (n).2.2], .agg #[.int .i64 c0, .int .i64 c1, .float .f64 c2, .int .i64 c3, .int .i64 c4, .int .i64 c5, .int .i64 c6, .int .i64 c7, .int .i64 c8, .bool c9, .bool c10], .int .i64 time, .slice a l.length cap] (by rfl) rfl rfl (by simp only [List.map_toArray, List.map_cons, List.map_nil]; rfl) ?_
      with_reducible refine (HP.out _ (by exact BB0.out)).mono ?_
      rintro e u4 ⟨rfl, hb⟩
      have Kc1 : Hid (u4.heap[w.heap.size]? = some (.cells #[.int .i64 c0, .int .i64 c1, .float .f64 c2, .int .i64 c3, .int .i64 c4, .int .i64 c5, .int .i64 c6, .int .i64 c7, .int .i64 c8, .bool c9, .bool c10] 95 (0, 0))) := Lib.hid (blk_below (by exact Kc0.out) hb)
      have Kp1 : Hid (u4.heap[gp]? = some (.cells #[.int .i64 (n).1, .int .i64 (n).2.1, .int .i64 (n).2.2] 99 (0, 0))) := Lib.hid (blk_below (by exact Kp0.out) hb)
      have Kr1 : Hid (u4.heap[gr]? = some (.cells #[.int .i64 (fst F n l).1, .int .i64 (fst F n l).2.1, .int .i64 (fst F n l).2.2] 104 (0, 0))) := Lib.hid (blk_below (by exact Kr0.out) hb)
      have BB1 : Hid (Below w.heap.size w u4) := Lib.hid (Below.trans (by exact BB0.out) (hb.mono (by have := BB0.out.size; simpa using this)))
      clear hb
      refine ⟨_, rfl, ?_⟩
      refine hK.out _ _ ⟨Kc1.out, Kp1.out, Kr1.out⟩ (fun hHeld => ?_)
      clear hK K
      refine norm_ (a' := ?_) ?_ ?_
      rotate_left
      · show Act.put _ (some 35) _ = _
        simp only [Act.put, List.setIfInBounds_toArray, List.set_cons_zero, List.set_cons_succ, i64_w, i32_w]
        rfl
      refine pure_ (i := 6) (N := some 37) (v := ?_) (a' := ?_) #[true, true, true, true, true, true, true, false, false, false, false] rfl rfl (any_of HT_.out (by kernel_rfl)) (fun _ _ _ h => h) (Or.inl ⟨by rfl, ?_⟩) ?_ ?_
      rotate_left
      · intro w'
        go_simp
        with_reducible rfl
      rotate_left
      · simp only [Act.put, List.setIfInBounds_toArray, List.set_cons_zero, List.set_cons_succ, i64_w, i32_w]
        rfl
      refine pure_ (i := 7) (N := some 38) (v := ?_) (a' := ?_) #[true, true, true, true, true, true, true, true, false, false, false] rfl rfl (any_of HT_.out (by kernel_rfl)) (fun _ _ _ h => h) (Or.inl ⟨by rfl, ?_⟩) ?_ ?_
      rotate_left
      · intro w'
        go_simp
        with_reducible rfl
      rotate_left
      · simp only [Act.put, List.setIfInBounds_toArray, List.set_cons_zero, List.set_cons_succ, i64_w, i32_w]
        rfl
      refine one_ (i := 8) (N := some 39) #[true, true, true, true, true, true, true, true, true, false, false] rfl rfl (one_of HT_.out (by kernel_rfl)) (by decide) (fun K hK => ?_)
      refine goes_ Try.func87 (by kernel_rfl) rfl #[] (by rfl) rfl rfl (by first | rfl | (simp; done)) ?_
      with_reducible refine (HL.out _).mono ?_
      rintro e u8 ⟨rfl, hb⟩
      have Kc2 : Hid (u8.heap[w.heap.size]? = some (.cells #[.int .i64 c0, .int .i64 c1, .float .f64 c2, .int .i64 c3, .int .i64 c4, .int .i64 c5, .int .i64 c6, .int .i64 c7, .int .i64 c8, .bool c9, .bool c10] 95 (0, 0))) := Lib.hid (blk_below (by exact Kc1.out) hb)
      have Kp2 : Hid (u8.heap[gp]? = some (.cells #[.int .i64 (n).1, .int .i64 (n).2.1, .int .i64 (n).2.2] 99 (0, 0))) := Lib.hid (blk_below (by exact Kp1.out) hb)
      have Kr2 : Hid (u8.heap[gr]? = some (.cells #[.int .i64 (fst F n l).1, .int .i64 (fst F n l).2.1, .int .i64 (fst F n l).2.2] 104 (0, 0))) := Lib.hid (blk_below (by exact Kr1.out) hb)
      have BB2 : Hid (Below w.heap.size w u8) := Lib.hid (Below.trans (by exact BB1.out) (hb.mono (by have := BB1.out.size; simpa using this)))
      clear hb
      refine ⟨_, rfl, ?_⟩
      refine hK.out _ _ ⟨Kc2.out, Kp2.out, Kr2.out⟩ (fun hHeld => ?_)
      clear hK K
      refine norm_ (a' := ?_) ?_ ?_
      rotate_left
      · show Act.put _ (some 39) _ = _
        simp only [Act.put, List.setIfInBounds_toArray, List.set_cons_zero, List.set_cons_succ, i64_w, i32_w]
        rfl
      refine pure_ (i := 9) (N := some 40) (v := ?_) (a' := ?_) #[true, true, true, true, true, true, true, true, true, true, false] rfl rfl (any_of HT_.out (by kernel_rfl)) (fun _ _ _ h => h) (Or.inl ⟨by rfl, ?_⟩) ?_ ?_
      rotate_left
      · intro w'
        go_simp
        with_reducible rfl
      rotate_left
      · simp only [Act.put, List.setIfInBounds_toArray, List.set_cons_zero, List.set_cons_succ, i64_w, i32_w]
        rfl
      refine pure_ (i := 10) (N := some 6) (v := ?_) (a' := ?_) #[true, true, true, true, true, true, true, true, true, true, true] rfl rfl (any_of HT_.out (by kernel_rfl)) (fun _ _ _ h => h) (Or.inl ⟨by rfl, ?_⟩) ?_ ?_
      rotate_left
      · intro w'
        go_simp
        with_reducible rfl
      rotate_left
      · simp only [Act.put, List.setIfInBounds_toArray, List.set_cons_zero, List.set_cons_succ, i64_w, i32_w]
        rfl
      refine done_ (done_of HT_.out (by kernel_rfl)) ?_
      go_wp2
      go_ret
      exact ⟨rfl, BB2.out⟩
end Go.Proofs.Ytclfambjkolckaa.IdlePW
