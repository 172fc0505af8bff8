/- The law Ipv4Back, walked: two bits turned. -/
import Derived.Test.YtlnnghbbjbimoaaIpv4B
namespace Go.Proofs.Ytlnnghbbjbimoaa.Ipv4B
open Go Go.RowKit Go.Proofs.Ytlnnghbbjbimoaa.PV Go.Proofs.YtlnnghbbjbimoaaW.PrintWords Go.Proofs.YtlnnghbbjbimoaaW.PrintLast Go.Proofs.YtlnnghbbjbimoaaW.PrintMore
set_option linter.unusedVariables false
set_option linter.unusedSimpArgs false
attribute [local go_sem high] eqA112
set_option maxRecDepth 100000 in
set_option maxHeartbeats 4000000 in
theorem near (t : ByteArray) (a0 a1 a2 a3 a4 a5 a6 a7 p q : Int) (b : Bool) (w : World) (s : ByteArray) (d : Int) (f1 f2 m1 m2 er : Int) (i1 i2 : Nat) (hl : ∀ w, Calls Try.prog 84 #[] w fun e w' => e = .returned (.bool true) ∧ Below w.heap.size w w') (hm : ∀ w, Calls Try.prog 89 #[.agg #[.int .u64 a0, .int .u64 a1, .int .u64 a2, .int .u64 a3, .int .i64 a4, .int .i64 a5, .int .i64 a6, .int .i64 a7, .bool b], .string t] w fun e w' => e = .returned (.string s) ∧ Below w.heap.size w w') (hp : ∀ w, Calls Try.prog 85 #[.string s] w fun e w' => e = .returned (.tuple #[.agg #[.int .u64 a0, .int .u64 a1, .int .u64 a2, .int .u64 a3, .int .i64 a4, .int .i64 20, .int .i64 (20 + (t.size : Int)), .int .i64 a7, .bool b], .int .i64 0]) ∧ Below w.heap.size w w') (hd : ∀ w, Calls Try.prog 85 #[.string (s.extract 0 (s.size - 1))] w fun e w' => e = .returned (.tuple #[.agg #[.int .u64 0, .int .u64 0, .int .u64 0, .int .u64 0, .int .i64 0, .int .i64 0, .int .i64 0, .int .i64 0, .bool false], .int .i64 d]) ∧ Below w.heap.size w w') (e1 : 8 + p % 152 = f1) (e2 : f1 + 1 + q % 15 = f2) (r1a : 8 ≤ f1) (r1b : f1 ≤ 174) (hi1 : wrap64 (f1.tdiv 8) = (i1 : Int)) (hj1 : f1 / 8 = (i1 : Int)) (b1 : (i1 : Int) < s.size) (sh1 : ∀ w, Sem.run Try.prog (Op.shift .shr .u8 128 .i64 (f1.tmod 8)) w = .ok (.int .u8 m1) w) (sj1 : ∀ w, Sem.run Try.prog (Op.shift .shr .u8 128 .i64 (f1 % 8)) w = .ok (.int .u8 m1) w) (r2a : 8 ≤ f2) (r2b : f2 ≤ 174) (hi2 : wrap64 (f2.tdiv 8) = (i2 : Int)) (hj2 : f2 / 8 = (i2 : Int)) (b2 : (i2 : Int) < s.size) (sh2 : ∀ w, Sem.run Try.prog (Op.shift .shr .u8 128 .i64 (f2.tmod 8)) w = .ok (.int .u8 m2) w) (sj2 : ∀ w, Sem.run Try.prog (Op.shift .shr .u8 128 .i64 (f2 % 8)) w = .ok (.int .u8 m2) w) (c2 : decide (f2 < 160) = true) (hf : ∀ w, Calls Try.prog 85 #[.string (strOfNums (((Ipv4P.bnums s).set i1 (bits .xor .u8 ((Ipv4P.bnums s).getD i1 0) m1)).set i2 (bits .xor .u8 (((Ipv4P.bnums s).set i1 (bits .xor .u8 ((Ipv4P.bnums s).getD i1 0) m1)).getD i2 0) m2)))] w fun e w' => e = .returned (.tuple #[.agg #[.int .u64 0, .int .u64 0, .int .u64 0, .int .u64 0, .int .i64 0, .int .i64 0, .int .i64 0, .int .i64 0, .bool false], .int .i64 er]) ∧ Below w.heap.size w w') (her : (er != 0) = true) (g0 : decide (200 < (t.size : Int)) = false) (g1 : (a0 != 0) = false) (g2 : (a2 != 0) = false) (g3 : decide (4294967295 < a1) = false) (g4 : decide (4294967295 < a3) = false) (g5 : decide (a4 < 0) = false) (g6 : decide (255 < a4) = false) (g7 : decide (a7 < 0) = false) (g8 : decide (8191 < a7) = false) (hz : s.size = t.size + 20) (hk : ((s.size : Int) != 20 + (t.size : Int)) = false) (hs0 : 20 ≤ s.size) (hs9 : s.size ≤ 220) (hd1 : (d == 0) = false) (ht : t.size ≤ 200) (hp0 : 0 ≤ p) (hp1 : p ≤ 255) (hq0 : 0 ≤ q) (hq1 : q ≤ 255) :
    Calls Try.prog 17 #[.agg #[.int .u64 a0, .int .u64 a1, .int .u64 a2, .int .u64 a3, .int .i64 a4, .int .i64 a5, .int .i64 a6, .int .i64 a7, .bool b], .string t, .agg #[.int .u8 p, .int .u8 q]] w fun e w' => e = .returned (.bool true) ∧ Below w.heap.size w w' := by
  have HF := Lib.hid hf; clear hf
  have HL := Lib.hid hl; have HM := Lib.hid hm; have HP := Lib.hid hp; have HD := Lib.hid hd; have HZ := Lib.hid hz; clear hl hm hp hd hz
  have hw : wrap64 (20 + (t.size : Int)) = 20 + (t.size : Int) := by unfold wrap64; omega
  have E1 := Lib.hid e1; have E2 := Lib.hid e2; clear e1 e2
  have I1 := Lib.hid hi1; have J1 := Lib.hid hj1; have S1 := Lib.hid sh1; have T1 := Lib.hid sj1; clear hi1 hj1 sh1 sj1
  try have I2 := Lib.hid hi2
  try have J2 := Lib.hid hj2
  try have S2 := Lib.hid sh2
  try have T2 := Lib.hid sj2
  try clear hi2 hj2 sh2 sj2
  have C2 := Lib.hid c2; clear c2
  go_enter Try.func17, Try.ntmps17
  go_wp2_with fail
  (with_reducible refine (HM.out _).mono ?_); rintro e w1 ⟨rfl, hb⟩
  have Kh1 : Hid (w1.heap[w.heap.size]? = some (.cells #[.int .u64 a0, .int .u64 a1, .int .u64 a2, .int .u64 a3, .int .i64 a4, .int .i64 a5, .int .i64 a6, .int .i64 a7, .bool b] 112 (0, 0))) := Lib.hid (blk_below (by exact blk_alloc (blk_new w _) _) hb); have Ka1 : Hid (w1.heap[w.heap.size + 1]? = some (.cells #[.int .u8 p, .int .u8 q] 109 (0, 0))) := Lib.hid (blk_below (by exact Go.Proofs.Ytlnnghbbjbimoaa.Ipv4Clo.new_at _ _ _ (by simp)) hb); have B1 := Lib.hid hb; clear hb
  go_wp2_with fail
  (with_reducible refine (HP.out _).mono ?_); rintro e w2 ⟨rfl, hb⟩
  have Kh2 : Hid (w2.heap[w.heap.size]? = some (.cells #[.int .u64 a0, .int .u64 a1, .int .u64 a2, .int .u64 a3, .int .i64 a4, .int .i64 a5, .int .i64 a6, .int .i64 a7, .bool b] 112 (0, 0))) := Lib.hid (blk_below Kh1.out hb); have Ka2 : Hid (w2.heap[w.heap.size + 1]? = some (.cells #[.int .u8 p, .int .u8 q] 109 (0, 0))) := Lib.hid (blk_below Ka1.out hb); have ch0 : w2.cell? ⟨w.heap.size, 0, none⟩ = some (.int .u64 a0) := (blk_cell Kh2.out 0).trans rfl; have ch1 : w2.cell? ⟨w.heap.size, 1, none⟩ = some (.int .u64 a1) := (blk_cell Kh2.out 1).trans rfl; have ch2 : w2.cell? ⟨w.heap.size, 2, none⟩ = some (.int .u64 a2) := (blk_cell Kh2.out 2).trans rfl; have ch3 : w2.cell? ⟨w.heap.size, 3, none⟩ = some (.int .u64 a3) := (blk_cell Kh2.out 3).trans rfl; have ch4 : w2.cell? ⟨w.heap.size, 4, none⟩ = some (.int .i64 a4) := (blk_cell Kh2.out 4).trans rfl; have ch5 : w2.cell? ⟨w.heap.size, 5, none⟩ = some (.int .i64 a5) := (blk_cell Kh2.out 5).trans rfl; have ch6 : w2.cell? ⟨w.heap.size, 6, none⟩ = some (.int .i64 a6) := (blk_cell Kh2.out 6).trans rfl; have ch7 : w2.cell? ⟨w.heap.size, 7, none⟩ = some (.int .i64 a7) := (blk_cell Kh2.out 7).trans rfl; have ch8 : w2.cell? ⟨w.heap.size, 8, none⟩ = some (.bool b) := (blk_cell Kh2.out 8).trans rfl; have B2 := Lib.hid hb; clear hb
  have hf5 := blk_frozen Kh2.out 5; have hf6 := blk_frozen Kh2.out 6
  have n0 : w.heap.size < w2.heap.size := blk_lt Kh2.out
  have n1 : ¬ w.heap.size = w2.heap.size := Nat.ne_of_lt n0
  go_wp2_with fail
  (with_reducible refine (HD.out _).mono ?_); rintro e w3 ⟨rfl, hb⟩
  have Kh3 : Hid (w3.heap[w.heap.size]? = some (.cells #[.int .u64 a0, .int .u64 a1, .int .u64 a2, .int .u64 a3, .int .i64 a4, .int .i64 20, .int .i64 (20 + (t.size : Int)), .int .i64 a7, .bool b] 112 (0, 0))) := Lib.hid (blk_below (by exact blk_alloc (blk_put (cs' := #[.int .u64 a0, .int .u64 a1, .int .u64 a2, .int .u64 a3, .int .i64 a4, .int .i64 20, .int .i64 (20 + (t.size : Int)), .int .i64 a7, .bool b]) (blk_put (cs' := #[.int .u64 a0, .int .u64 a1, .int .u64 a2, .int .u64 a3, .int .i64 a4, .int .i64 20, .int .i64 a6, .int .i64 a7, .bool b]) Kh2.out 5 (.int .i64 20) rfl) 6 (.int .i64 (20 + (t.size : Int))) rfl) _) hb); have Ka3 : Hid (w3.heap[w.heap.size + 1]? = some (.cells #[.int .u8 p, .int .u8 q] 109 (0, 0))) := Lib.hid (blk_below (by exact blk_alloc (blk_far (blk_far Ka2.out (p := ⟨w.heap.size, 5, none⟩) (by simp) _) (p := ⟨w.heap.size, 6, none⟩) (by simp) _) _) hb); have B3 := Lib.hid hb; clear hb
  clear hf5 hf6 n0 n1 hw hk
  have nb : w.heap.size + 1 < w3.heap.size := blk_lt Ka3.out
  have hW : Hid (W4s w3 s w p q) := Lib.hid (w4s w3 s w p q Ka3.out)
  have ca0 := hW.out.1; have ca1 := hW.out.2.1
  have hcv := fun w s => conv_run w s
  have e1 := E1.out; have e2 := E2.out
  clear nb
  go_wp2_with fail
  have HC := Lib.hid hW.out.2.2.1
  have BC := Lib.hid hW.out.2.2.2
  clear hW ca0 ca1 hcv e1 e2
  have hi1 := I1.out; have hj1 := J1.out; have sh1 := S1.out; have sj1 := T1.out
  revert HC BC
  generalize cvw (w3.alloc (.cells #[.int .u64 0, .int .u64 0, .int .u64 0, .int .u64 0, .int .i64 0, .int .i64 0, .int .i64 0, .int .i64 0, .bool false] 112 (0, 0))) s = w4
  generalize cvc (w3.alloc (.cells #[.int .u64 0, .int .u64 0, .int .u64 0, .int .u64 0, .int .i64 0, .int .i64 0, .int .i64 0, .int .i64 0, .bool false] 112 (0, 0))) s = cc
  intro HC BC
  have hxs : Hid ((Ipv4P.bnums s).length = s.size) := Lib.hid (Ipv4P.bn_length s)
  obtain ⟨x1, hv1⟩ : ∃ x, x = (Ipv4P.bnums s).getD i1 0 := ⟨_, rfl⟩
  have HV1 := Lib.hid hv1
  have cx : w4.cell? ⟨w3.heap.size + 1, i1, none⟩ = some (.int .u8 x1) := by rw [hv1]; exact (HC.out i1 (by rw [hxs.out]; omega)).1
  have fx : w4.frozen? ⟨w3.heap.size + 1, i1, none⟩ = false := (HC.out i1 (by rw [hxs.out]; omega)).2
  clear hv1
  refine start_ (n := 11) (S := fun w' => w'.cell? ⟨w3.heap.size + 1, i1, none⟩ = some (.int .u8 x1)) (ds := [10]) #[false, false, false, false, false, false, false, false, false, false, false] (by kernel_rfl) rfl rfl (cx) (fun hHeld => ?_)
  refine pure_ (i := 0) (N := some 117) (v := ?_) (a' := ?_) #[true, false, false, false, false, false, false, false, false, false, false] rfl rfl (by kernel_rfl) (fun _ _ _ h => h) (Or.inl ⟨by rfl, ?_⟩) ?_ ?_
  rotate_left
  · intro w'
    go_simp
    with_reducible rfl
  rotate_left
  · simp only [Act.put, List.setIfInBounds_toArray, List.set_cons_zero, List.set_cons_succ, i64_w, i32_w]
    rfl
  refine pure_ (i := 1) (N := some 118) (v := ?_) (a' := ?_) #[true, true, false, false, false, false, false, false, false, false, false] rfl rfl (by kernel_rfl) (fun _ _ _ h => h) (Or.inl ⟨by rfl, ?_⟩) ?_ ?_
  rotate_left
  · intro w'
    go_simp
    with_reducible rfl
  rotate_left
  · simp only [Act.put, List.setIfInBounds_toArray, List.set_cons_zero, List.set_cons_succ, i64_w, i32_w]
    rfl
  refine pure_ (i := 2) (N := some 119) (v := ?_) (a' := ?_) #[true, true, true, false, false, false, false, false, false, false, false] rfl rfl (by kernel_rfl) (fun _ _ _ h => h) (Or.inl ⟨by rfl, ?_⟩) ?_ ?_
  rotate_left
  · intro w'
    go_simp
    with_reducible rfl
  rotate_left
  · simp only [Act.put, List.setIfInBounds_toArray, List.set_cons_zero, List.set_cons_succ, i64_w, i32_w]
    rfl
  refine pure_ (i := 3) (N := some 120) (v := ?_) (a' := ?_) #[true, true, true, true, false, false, false, false, false, false, false] rfl rfl (by kernel_rfl) (fun _ _ _ h => h) (Or.inl ⟨by rfl, ?_⟩) ?_ ?_
  rotate_left
  · intro w'
    go_simp
    with_reducible rfl
  rotate_left
  · simp only [Act.put, List.setIfInBounds_toArray, List.set_cons_zero, List.set_cons_succ, i64_w, i32_w]
    rfl
  refine pure_ (i := 5) (N := some 122) (v := ?_) (a' := ?_) #[true, true, true, true, false, true, false, false, false, false, false] rfl rfl (by kernel_rfl) (fun _ _ _ h => h) (Or.inl ⟨by rfl, ?_⟩) ?_ ?_
  rotate_left
  · intro w'
    go_simp
    with_reducible rfl
  rotate_left
  · simp only [Act.put, List.setIfInBounds_toArray, List.set_cons_zero, List.set_cons_succ, i64_w, i32_w]
    rfl
  refine pure_ (i := 6) (N := some 123) (v := ?_) (a' := ?_) #[true, true, true, true, false, true, true, false, false, false, false] rfl rfl (by kernel_rfl) (fun _ _ _ h => h) (Or.inl ⟨by rfl, ?_⟩) ?_ ?_
  rotate_left
  · intro w'
    go_simp
    with_reducible rfl
  rotate_left
  · simp only [Act.put, List.setIfInBounds_toArray, List.set_cons_zero, List.set_cons_succ, i64_w, i32_w]
    rfl
  refine pure_ (i := 7) (N := some 124) (v := ?_) (a' := ?_) #[true, true, true, true, false, true, true, true, false, false, false] rfl rfl (by kernel_rfl) (fun _ _ _ h => h) (Or.inl ⟨by rfl, ?_⟩) ?_ ?_
  rotate_left
  · intro w'
    go_simp
    with_reducible rfl
  rotate_left
  · simp only [Act.put, List.setIfInBounds_toArray, List.set_cons_zero, List.set_cons_succ, i64_w, i32_w]
    rfl
  refine take_ (i := 4) (N := some 121) (v := ?_) (a' := ?_) #[true, true, true, true, true, true, true, true, false, false, false] rfl rfl (by kernel_rfl) (fun _ _ _ h => h) (Or.inl ⟨by rfl, ?_⟩) hHeld ?_ ?_
  rotate_left
  · intro w' s0
    go_simp
    with_reducible rfl
  rotate_left
  · simp only [Act.put, List.setIfInBounds_toArray, List.set_cons_zero, List.set_cons_succ, i64_w, i32_w]
    rfl
  refine pure_ (i := 8) (N := some 125) (v := ?_) (a' := ?_) #[true, true, true, true, true, true, true, true, true, false, false] rfl rfl (by kernel_rfl) (fun _ _ _ h => h) (Or.inl ⟨by rfl, ?_⟩) ?_ ?_
  rotate_left
  · intro w'
    go_simp
    with_reducible rfl
  rotate_left
  · simp only [Act.put, List.setIfInBounds_toArray, List.set_cons_zero, List.set_cons_succ, i64_w, i32_w]
    rfl
  refine pure_ (i := 9) (N := some 126) (v := ?_) (a' := ?_) #[true, true, true, true, true, true, true, true, true, true, false] rfl rfl (by kernel_rfl) (fun _ _ _ h => h) (Or.inl ⟨by rfl, ?_⟩) ?_ ?_
  rotate_left
  · intro w'
    go_simp
    with_reducible rfl
  rotate_left
  · simp only [Act.put, List.setIfInBounds_toArray, List.set_cons_zero, List.set_cons_succ, i64_w, i32_w]
    rfl
  refine last_ (i := 10) (N := none) #[true, true, true, true, true, true, true, true, true, true, true] rfl rfl (by kernel_rfl) (by decide) (fun K hK => ?_)
  refine skip_ (w1 := ?_) (by rfl) rfl ?_ ?_
  rotate_left
  · go_simp
    rfl
  refine hK.out _ _ ?_
  clear hK K
  refine done_ (by kernel_rfl) ?_
  have HC1 := Lib.hid (HC.out.set i1 (by rw [hxs.out]; omega) (bits .xor .u8 x1 m1)).drew
  have BC1 := Lib.hid (BC.out.setCell (p := ⟨w3.heap.size + 1, i1, none⟩) (by show w3.heap.size ≤ w3.heap.size + 1; omega) (.int .u8 (bits .xor .u8 x1 m1))).drew
  have hx1 : Hid (((Ipv4P.bnums s).set i1 (bits .xor .u8 x1 m1)).length = s.size) := Lib.hid (by rw [List.length_set]; exact hxs.out)
  clear cx fx hHeld HC BC hi1 hj1 sh1 sj1
  have c2 := C2.out
  revert HC1 BC1 hx1
  generalize (w4.setCell ⟨w3.heap.size + 1, i1, none⟩ (.int .u8 (bits .xor .u8 x1 m1))).drew = w5
  generalize hX1 : (Ipv4P.bnums s).set i1 (bits .xor .u8 x1 m1) = X1
  intro HC1 BC1 hx1
  have HX1 : Hid (((Ipv4P.bnums s).set i1 (bits .xor .u8 ((Ipv4P.bnums s).getD i1 0) m1)) = X1) := Lib.hid (by rw [← HV1.out]; exact hX1)
  clear hX1
  obtain ⟨x2, hv2⟩ : ∃ x, x = X1.getD i2 0 := ⟨_, rfl⟩
  have HV2 := Lib.hid hv2
  have cx : w5.cell? ⟨w3.heap.size + 1, i2, none⟩ = some (.int .u8 x2) := by rw [hv2]; exact (HC1.out i2 (by rw [hx1.out]; omega)).1
  have fx : w5.frozen? ⟨w3.heap.size + 1, i2, none⟩ = false := (HC1.out i2 (by rw [hx1.out]; omega)).2
  clear hv2
  go_wp2_with fail
  have hi2 := I2.out; have hj2 := J2.out; have sh2 := S2.out; have sj2 := T2.out
  refine start_ (n := 11) (S := fun w' => w'.cell? ⟨w3.heap.size + 1, i2, none⟩ = some (.int .u8 x2)) (ds := [10]) #[false, false, false, false, false, false, false, false, false, false, false] (by kernel_rfl) rfl rfl (cx) (fun hHeld => ?_)
  refine pure_ (i := 0) (N := some 129) (v := ?_) (a' := ?_) #[true, false, false, false, false, false, false, false, false, false, false] rfl rfl (by kernel_rfl) (fun _ _ _ h => h) (Or.inl ⟨by rfl, ?_⟩) ?_ ?_
  rotate_left
  · intro w'
    go_simp
    with_reducible rfl
  rotate_left
  · simp only [Act.put, List.setIfInBounds_toArray, List.set_cons_zero, List.set_cons_succ, i64_w, i32_w]
    rfl
  refine pure_ (i := 1) (N := some 130) (v := ?_) (a' := ?_) #[true, true, false, false, false, false, false, false, false, false, false] rfl rfl (by kernel_rfl) (fun _ _ _ h => h) (Or.inl ⟨by rfl, ?_⟩) ?_ ?_
  rotate_left
  · intro w'
    go_simp
    with_reducible rfl
  rotate_left
  · simp only [Act.put, List.setIfInBounds_toArray, List.set_cons_zero, List.set_cons_succ, i64_w, i32_w]
    rfl
  refine pure_ (i := 2) (N := some 131) (v := ?_) (a' := ?_) #[true, true, true, false, false, false, false, false, false, false, false] rfl rfl (by kernel_rfl) (fun _ _ _ h => h) (Or.inl ⟨by rfl, ?_⟩) ?_ ?_
  rotate_left
  · intro w'
    go_simp
    with_reducible rfl
  rotate_left
  · simp only [Act.put, List.setIfInBounds_toArray, List.set_cons_zero, List.set_cons_succ, i64_w, i32_w]
    rfl
  refine pure_ (i := 3) (N := some 132) (v := ?_) (a' := ?_) #[true, true, true, true, false, false, false, false, false, false, false] rfl rfl (by kernel_rfl) (fun _ _ _ h => h) (Or.inl ⟨by rfl, ?_⟩) ?_ ?_
  rotate_left
  · intro w'
    go_simp
    with_reducible rfl
  rotate_left
  · simp only [Act.put, List.setIfInBounds_toArray, List.set_cons_zero, List.set_cons_succ, i64_w, i32_w]
    rfl
  refine pure_ (i := 5) (N := some 134) (v := ?_) (a' := ?_) #[true, true, true, true, false, true, false, false, false, false, false] rfl rfl (by kernel_rfl) (fun _ _ _ h => h) (Or.inl ⟨by rfl, ?_⟩) ?_ ?_
  rotate_left
  · intro w'
    go_simp
    with_reducible rfl
  rotate_left
  · simp only [Act.put, List.setIfInBounds_toArray, List.set_cons_zero, List.set_cons_succ, i64_w, i32_w]
    rfl
  refine pure_ (i := 6) (N := some 135) (v := ?_) (a' := ?_) #[true, true, true, true, false, true, true, false, false, false, false] rfl rfl (by kernel_rfl) (fun _ _ _ h => h) (Or.inl ⟨by rfl, ?_⟩) ?_ ?_
  rotate_left
  · intro w'
    go_simp
    with_reducible rfl
  rotate_left
  · simp only [Act.put, List.setIfInBounds_toArray, List.set_cons_zero, List.set_cons_succ, i64_w, i32_w]
    rfl
  refine pure_ (i := 7) (N := some 136) (v := ?_) (a' := ?_) #[true, true, true, true, false, true, true, true, false, false, false] rfl rfl (by kernel_rfl) (fun _ _ _ h => h) (Or.inl ⟨by rfl, ?_⟩) ?_ ?_
  rotate_left
  · intro w'
    go_simp
    with_reducible rfl
  rotate_left
  · simp only [Act.put, List.setIfInBounds_toArray, List.set_cons_zero, List.set_cons_succ, i64_w, i32_w]
    rfl
  refine take_ (i := 4) (N := some 133) (v := ?_) (a' := ?_) #[true, true, true, true, true, true, true, true, false, false, false] rfl rfl (by kernel_rfl) (fun _ _ _ h => h) (Or.inl ⟨by rfl, ?_⟩) hHeld ?_ ?_
  rotate_left
  · intro w' s0
    go_simp
    with_reducible rfl
  rotate_left
  · simp only [Act.put, List.setIfInBounds_toArray, List.set_cons_zero, List.set_cons_succ, i64_w, i32_w]
    rfl
  refine pure_ (i := 8) (N := some 137) (v := ?_) (a' := ?_) #[true, true, true, true, true, true, true, true, true, false, false] rfl rfl (by kernel_rfl) (fun _ _ _ h => h) (Or.inl ⟨by rfl, ?_⟩) ?_ ?_
  rotate_left
  · intro w'
    go_simp
    with_reducible rfl
  rotate_left
  · simp only [Act.put, List.setIfInBounds_toArray, List.set_cons_zero, List.set_cons_succ, i64_w, i32_w]
    rfl
  refine pure_ (i := 9) (N := some 138) (v := ?_) (a' := ?_) #[true, true, true, true, true, true, true, true, true, true, false] rfl rfl (by kernel_rfl) (fun _ _ _ h => h) (Or.inl ⟨by rfl, ?_⟩) ?_ ?_
  rotate_left
  · intro w'
    go_simp
    with_reducible rfl
  rotate_left
  · simp only [Act.put, List.setIfInBounds_toArray, List.set_cons_zero, List.set_cons_succ, i64_w, i32_w]
    rfl
  refine last_ (i := 10) (N := none) #[true, true, true, true, true, true, true, true, true, true, true] rfl rfl (by kernel_rfl) (by decide) (fun K hK => ?_)
  refine skip_ (w1 := ?_) (by rfl) rfl ?_ ?_
  rotate_left
  · go_simp
    rfl
  refine hK.out _ _ ?_
  clear hK K
  refine done_ (by kernel_rfl) ?_
  have HC2 := Lib.hid (HC1.out.set i2 (by rw [hx1.out]; omega) (bits .xor .u8 x2 m2)).drew
  have BC2 := Lib.hid (BC1.out.setCell (p := ⟨w3.heap.size + 1, i2, none⟩) (by show w3.heap.size ≤ w3.heap.size + 1; omega) (.int .u8 (bits .xor .u8 x2 m2))).drew
  have hx2 : Hid ((X1.set i2 (bits .xor .u8 x2 m2)).length = s.size) := Lib.hid (by rw [List.length_set]; exact hx1.out)
  clear cx fx hHeld HC1 BC1 hx1 hi2 hj2 sh2 sj2
  revert HC2 BC2 hx2
  generalize (w5.setCell ⟨w3.heap.size + 1, i2, none⟩ (.int .u8 (bits .xor .u8 x2 m2))).drew = w6
  generalize hX2 : X1.set i2 (bits .xor .u8 x2 m2) = X2
  intro HC2 BC2 hx2
  have HX2 : Hid (X1.set i2 (bits .xor .u8 (X1.getD i2 0) m2) = X2) := Lib.hid (by rw [← HV2.out]; exact hX2)
  clear hX2
  have hst := run_convert_bytes_arg (P := Try.prog) w6 22 5 Try.underlying22 Try.underlying5 (w3.heap.size + 1) 0 s.size cc X2 hx2.out (fun i hi => by have := (HC2.out i (by rw [hx2.out]; exact hi)).1; simpa using this) 9 Try.underlying9
  have hF := HF.out
  rw [HX1.out, HX2.out] at hF
  have HG := Lib.hid hF; clear hF
  go_wp2_with fail
  (with_reducible refine (HG.out _).mono ?_); rintro e w7 ⟨rfl, hb⟩
  have B7 := Lib.hid hb; clear hb hst
  go_wp2_with fail
  (with_reducible refine (HL.out _).mono ?_); rintro e w8 ⟨rfl, hb⟩
  have B8 := Lib.hid hb; clear hb
  go_wp2
  go_ret
  have C1 := Lib.hid ((((Below.refl w.heap.size w).alloc (Nat.le_refl _) (.cells #[.int .u64 a0, .int .u64 a1, .int .u64 a2, .int .u64 a3, .int .i64 a4, .int .i64 a5, .int .i64 a6, .int .i64 a7, .bool b] 112 (0, 0))).alloc (by simp) (.cells #[.int .u8 p, .int .u8 q] 109 (0, 0))).trans (B1.out.mono (by simp; omega)))
  have C2 := Lib.hid (C1.out.trans (B2.out.mono C1.out.size))
  have z2 : w.heap.size ≤ w2.heap.size := C2.out.size
  have C3 := Lib.hid ((((C2.out.setCell (p := ⟨w.heap.size, 5, none⟩) (Nat.le_refl _) (.int .i64 20)).setCell (p := ⟨w.heap.size, 6, none⟩) (Nat.le_refl _) (.int .i64 (20 + (t.size : Int)))).alloc (by simp; omega) (.cells #[.int .u64 a0, .int .u64 a1, .int .u64 a2, .int .u64 a3, .int .i64 a4, .int .i64 20, .int .i64 (20 + (t.size : Int)), .int .i64 a7, .bool b] 112 (0, 0))).trans (B3.out.mono (by simp; omega)))
  have C4 := Lib.hid (C3.out.trans (BC2.out.mono C3.out.size))
  have z4 : w.heap.size ≤ w6.heap.size := C4.out.size
  have C5 := Lib.hid (C4.out.trans (B7.out.mono z4))
  have C6 := Lib.hid (C5.out.alloc C5.out.size (.cells #[.int .u64 0, .int .u64 0, .int .u64 0, .int .u64 0, .int .i64 0, .int .i64 0, .int .i64 0, .int .i64 0, .bool false] 112 (0, 0)))
  exact ⟨rfl, C6.out.trans (B8.out.mono C6.out.size)⟩
end Go.Proofs.Ytlnnghbbjbimoaa.Ipv4B
