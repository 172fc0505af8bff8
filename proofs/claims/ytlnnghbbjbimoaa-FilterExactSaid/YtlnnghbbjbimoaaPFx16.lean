-- written by wip/tools/pr.py over the kit's print.py, out of the translation; Lean checks it
import Derived.Test.YtlnnghbbjbimoaaPFx0
import Derived.Test.YtlnnghbbjbimoaaPFx3
namespace Go.Proofs.Ytlnnghbbjbimoaa.PF
open Go.RowKit Go.Proofs.YtlnnghbbjbimoaaW.PrintWords Go.Proofs.YtlnnghbbjbimoaaW.PrintLast Go.Proofs.YtlnnghbbjbimoaaW.PrintMore
attribute [local go_sem] max2_int min2_int max_two min_two max_three min_three max_four min_four   -- for this text's walks alone
set_option linter.unusedVariables false
set_option linter.unusedSimpArgs false

-- NOT PRINTED: function 5 (flashlocklaw15_FilterTells)

-- NOT PRINTED: function 6 (flashlocklaw15_FilterCovers)

/-! ### filter_Of: function 30 -/
def filter_Of.f (a0_0 : Int) (a0_1 : Int) (a0_2 : Int) (a0_3 : Int) (a0_4 : Int) (a0_5 : Int) (a0_6 : Int) (a0_7 : Int) (a1 : Int) (a2 : Int) (a3 : Int) : Option (Int × Int × Int × Int × Int × Int × Int × Int × Int × Int × Int × Int × Int × Int × Int) := (inet_Bits.f a0_0).bind fun t => (some (a1, a2, a0_0, a0_1, a0_2, a0_3, a0_4, t, t, a0_5, a0_6, a0_6, a0_7, a0_7, a3))
set_option maxRecDepth 100000 in
theorem filter_Of.fill (w : World) (g t : Nat) (z0 z1 z2 z3 z4 z5 z6 z7 z8 z9 z10 z11 z12 z13 z14 v0 v1 v2 v3 v4 v5 v6 v7 v8 v9 v10 v11 v12 v13 v14 : Value) (h : w.heap[g]? = some (.cells #[z0, z1, z2, z3, z4, z5, z6, z7, z8, z9, z10, z11, z12, z13, z14] t (0, 0))) : (((((((((((((((w.setCell ⟨g, 0, none⟩ v0).setCell ⟨g, 1, none⟩ v1).setCell ⟨g, 2, none⟩ v2).setCell ⟨g, 3, none⟩ v3).setCell ⟨g, 4, none⟩ v4).setCell ⟨g, 5, none⟩ v5).setCell ⟨g, 6, none⟩ v6).setCell ⟨g, 7, none⟩ v7).setCell ⟨g, 8, none⟩ v8).setCell ⟨g, 9, none⟩ v9).setCell ⟨g, 10, none⟩ v10).setCell ⟨g, 11, none⟩ v11).setCell ⟨g, 12, none⟩ v12).setCell ⟨g, 13, none⟩ v13).setCell ⟨g, 14, none⟩ v14).heap[g]? = some (.cells #[v0, v1, v2, v3, v4, v5, v6, v7, v8, v9, v10, v11, v12, v13, v14] t (0, 0)) := by
  replace h := blk_put (cs := #[z0, z1, z2, z3, z4, z5, z6, z7, z8, z9, z10, z11, z12, z13, z14]) (cs' := #[v0, z1, z2, z3, z4, z5, z6, z7, z8, z9, z10, z11, z12, z13, z14]) h 0 v0 rfl
  replace h := blk_put (cs := #[v0, z1, z2, z3, z4, z5, z6, z7, z8, z9, z10, z11, z12, z13, z14]) (cs' := #[v0, v1, z2, z3, z4, z5, z6, z7, z8, z9, z10, z11, z12, z13, z14]) h 1 v1 rfl
  replace h := blk_put (cs := #[v0, v1, z2, z3, z4, z5, z6, z7, z8, z9, z10, z11, z12, z13, z14]) (cs' := #[v0, v1, v2, z3, z4, z5, z6, z7, z8, z9, z10, z11, z12, z13, z14]) h 2 v2 rfl
  replace h := blk_put (cs := #[v0, v1, v2, z3, z4, z5, z6, z7, z8, z9, z10, z11, z12, z13, z14]) (cs' := #[v0, v1, v2, v3, z4, z5, z6, z7, z8, z9, z10, z11, z12, z13, z14]) h 3 v3 rfl
  replace h := blk_put (cs := #[v0, v1, v2, v3, z4, z5, z6, z7, z8, z9, z10, z11, z12, z13, z14]) (cs' := #[v0, v1, v2, v3, v4, z5, z6, z7, z8, z9, z10, z11, z12, z13, z14]) h 4 v4 rfl
  replace h := blk_put (cs := #[v0, v1, v2, v3, v4, z5, z6, z7, z8, z9, z10, z11, z12, z13, z14]) (cs' := #[v0, v1, v2, v3, v4, v5, z6, z7, z8, z9, z10, z11, z12, z13, z14]) h 5 v5 rfl
  replace h := blk_put (cs := #[v0, v1, v2, v3, v4, v5, z6, z7, z8, z9, z10, z11, z12, z13, z14]) (cs' := #[v0, v1, v2, v3, v4, v5, v6, z7, z8, z9, z10, z11, z12, z13, z14]) h 6 v6 rfl
  replace h := blk_put (cs := #[v0, v1, v2, v3, v4, v5, v6, z7, z8, z9, z10, z11, z12, z13, z14]) (cs' := #[v0, v1, v2, v3, v4, v5, v6, v7, z8, z9, z10, z11, z12, z13, z14]) h 7 v7 rfl
  replace h := blk_put (cs := #[v0, v1, v2, v3, v4, v5, v6, v7, z8, z9, z10, z11, z12, z13, z14]) (cs' := #[v0, v1, v2, v3, v4, v5, v6, v7, v8, z9, z10, z11, z12, z13, z14]) h 8 v8 rfl
  replace h := blk_put (cs := #[v0, v1, v2, v3, v4, v5, v6, v7, v8, z9, z10, z11, z12, z13, z14]) (cs' := #[v0, v1, v2, v3, v4, v5, v6, v7, v8, v9, z10, z11, z12, z13, z14]) h 9 v9 rfl
  replace h := blk_put (cs := #[v0, v1, v2, v3, v4, v5, v6, v7, v8, v9, z10, z11, z12, z13, z14]) (cs' := #[v0, v1, v2, v3, v4, v5, v6, v7, v8, v9, v10, z11, z12, z13, z14]) h 10 v10 rfl
  replace h := blk_put (cs := #[v0, v1, v2, v3, v4, v5, v6, v7, v8, v9, v10, z11, z12, z13, z14]) (cs' := #[v0, v1, v2, v3, v4, v5, v6, v7, v8, v9, v10, v11, z12, z13, z14]) h 11 v11 rfl
  replace h := blk_put (cs := #[v0, v1, v2, v3, v4, v5, v6, v7, v8, v9, v10, v11, z12, z13, z14]) (cs' := #[v0, v1, v2, v3, v4, v5, v6, v7, v8, v9, v10, v11, v12, z13, z14]) h 12 v12 rfl
  replace h := blk_put (cs := #[v0, v1, v2, v3, v4, v5, v6, v7, v8, v9, v10, v11, v12, z13, z14]) (cs' := #[v0, v1, v2, v3, v4, v5, v6, v7, v8, v9, v10, v11, v12, v13, z14]) h 13 v13 rfl
  replace h := blk_put (cs := #[v0, v1, v2, v3, v4, v5, v6, v7, v8, v9, v10, v11, v12, v13, z14]) (cs' := #[v0, v1, v2, v3, v4, v5, v6, v7, v8, v9, v10, v11, v12, v13, v14]) h 14 v14 rfl
  exact h
theorem filter_Of.fillB (w0 w : World) (g : Nat) (v0 v1 v2 v3 v4 v5 v6 v7 v8 v9 v10 v11 v12 v13 v14 : Value) (h : Below w0.heap.size w0 w) (hg : w0.heap.size ≤ g) : Below w0.heap.size w0 (((((((((((((((w.setCell ⟨g, 0, none⟩ v0).setCell ⟨g, 1, none⟩ v1).setCell ⟨g, 2, none⟩ v2).setCell ⟨g, 3, none⟩ v3).setCell ⟨g, 4, none⟩ v4).setCell ⟨g, 5, none⟩ v5).setCell ⟨g, 6, none⟩ v6).setCell ⟨g, 7, none⟩ v7).setCell ⟨g, 8, none⟩ v8).setCell ⟨g, 9, none⟩ v9).setCell ⟨g, 10, none⟩ v10).setCell ⟨g, 11, none⟩ v11).setCell ⟨g, 12, none⟩ v12).setCell ⟨g, 13, none⟩ v13).setCell ⟨g, 14, none⟩ v14) := (below_set (below_set (below_set (below_set (below_set (below_set (below_set (below_set (below_set (below_set (below_set (below_set (below_set (below_set (below_set h hg) hg) hg) hg) hg) hg) hg) hg) hg) hg) hg) hg) hg) hg) hg)
set_option maxHeartbeats 2000000 in
set_option maxRecDepth 100000 in
theorem filter_Of.calls (a0_0 : Int) (a0_1 : Int) (a0_2 : Int) (a0_3 : Int) (a0_4 : Int) (a0_5 : Int) (a0_6 : Int) (a0_7 : Int) (a1 : Int) (a2 : Int) (a3 : Int) (r1 : Int) (r2 : Int) (r3 : Int) (r4 : Int) (r5 : Int) (r6 : Int) (r7 : Int) (r8 : Int) (r9 : Int) (r10 : Int) (r11 : Int) (r12 : Int) (r13 : Int) (r14 : Int) (r15 : Int) (w : World) (h : filter_Of.f a0_0 a0_1 a0_2 a0_3 a0_4 a0_5 a0_6 a0_7 a1 a2 a3 = some (r1, r2, r3, r4, r5, r6, r7, r8, r9, r10, r11, r12, r13, r14, r15)) :
    Calls Try.prog 30 #[.agg #[.int .i64 a0_0, .int .u64 a0_1, .int .u64 a0_2, .int .u64 a0_3, .int .u64 a0_4, .int .i64 a0_5, .int .i64 a0_6, .int .i64 a0_7], .int .i64 a1, .int .i64 a2, .int .i64 a3] w fun e w' => e = .returned (.agg #[.int .i64 r1, .int .i64 r2, .int .i64 r3, .int .u64 r4, .int .u64 r5, .int .u64 r6, .int .u64 r7, .int .i64 r8, .int .i64 r9, .int .i64 r10, .int .i64 r11, .int .i64 r12, .int .i64 r13, .int .i64 r14, .int .i64 r15]) ∧ Below w.heap.size w w' := by
  unfold filter_Of.f at h
  obtain ⟨t, ht, h⟩ := Option.bind_eq_some_iff.1 h
  simp only [Option.some.injEq, Prod.mk.injEq] at h
  obtain ⟨rfl, rfl, rfl, rfl, rfl, rfl, rfl, rfl, rfl, rfl, rfl, rfl, rfl, rfl, rfl⟩ := h
  have HC := fun w => Lib.hid (inet_Bits.calls a0_0 t w ht)
  clear ht
  go_enter Try.func30, Try.ntmps30
  go_wp2_with (first | (go_at_call 73; refine (HC _).out.mono ?_; rintro e w1 ⟨rfl, hb1⟩; have k0 : w1.heap[w.heap.size]? = some (.cells #[.int .i64 a0_0, .int .u64 a0_1, .int .u64 a0_2, .int .u64 a0_3, .int .u64 a0_4, .int .i64 a0_5, .int .i64 a0_6, .int .i64 a0_7] 39 (0, 0)) := blk_below (blk_alloc (blk_new w _) _) hb1.below; have k1 : w1.heap[w.heap.size + 1]? = some (.cells #[.int .i64 0, .int .i64 0, .int .i64 0, .int .u64 0, .int .u64 0, .int .u64 0, .int .u64 0, .int .i64 0, .int .i64 0, .int .i64 0, .int .i64 0, .int .i64 0, .int .i64 0, .int .i64 0, .int .i64 0] 44 (0, 0)) := blk_below ((by rw [← World.size_alloc w (.cells #[.int .i64 a0_0, .int .u64 a0_1, .int .u64 a0_2, .int .u64 a0_3, .int .u64 a0_4, .int .i64 a0_5, .int .i64 a0_6, .int .i64 a0_7] 39 (0, 0))]; exact blk_new _ _)) hb1.below; have hB : Below w.heap.size w w1 := ((Below.refl w.heap.size w).alloc (Nat.le_refl _) _ |>.alloc (by simp) _).trans (hb1.below.mono (by simp; omega)); have c0 : w1.cell? ⟨w.heap.size, 0, none⟩ = some (.int .i64 a0_0) := (blk_cell k0 0).trans rfl; have c1 : w1.cell? ⟨w.heap.size, 1, none⟩ = some (.int .u64 a0_1) := (blk_cell k0 1).trans rfl; have c2 : w1.cell? ⟨w.heap.size, 2, none⟩ = some (.int .u64 a0_2) := (blk_cell k0 2).trans rfl; have c3 : w1.cell? ⟨w.heap.size, 3, none⟩ = some (.int .u64 a0_3) := (blk_cell k0 3).trans rfl; have c4 : w1.cell? ⟨w.heap.size, 4, none⟩ = some (.int .u64 a0_4) := (blk_cell k0 4).trans rfl; have c5 : w1.cell? ⟨w.heap.size, 5, none⟩ = some (.int .i64 a0_5) := (blk_cell k0 5).trans rfl; have c6 : w1.cell? ⟨w.heap.size, 6, none⟩ = some (.int .i64 a0_6) := (blk_cell k0 6).trans rfl; have c7 : w1.cell? ⟨w.heap.size, 7, none⟩ = some (.int .i64 a0_7) := (blk_cell k0 7).trans rfl; have d0 : w1.cell? ⟨w.heap.size + 1, 0, none⟩ = some (.int .i64 0) := (blk_cell k1 0).trans rfl; have e0 : w1.frozen? ⟨w.heap.size + 1, 0, none⟩ = false := blk_frozen k1 0; have d1 : w1.cell? ⟨w.heap.size + 1, 1, none⟩ = some (.int .i64 0) := (blk_cell k1 1).trans rfl; have e1 : w1.frozen? ⟨w.heap.size + 1, 1, none⟩ = false := blk_frozen k1 1; have d2 : w1.cell? ⟨w.heap.size + 1, 2, none⟩ = some (.int .i64 0) := (blk_cell k1 2).trans rfl; have e2 : w1.frozen? ⟨w.heap.size + 1, 2, none⟩ = false := blk_frozen k1 2; have d3 : w1.cell? ⟨w.heap.size + 1, 3, none⟩ = some (.int .u64 0) := (blk_cell k1 3).trans rfl; have e3 : w1.frozen? ⟨w.heap.size + 1, 3, none⟩ = false := blk_frozen k1 3; have d4 : w1.cell? ⟨w.heap.size + 1, 4, none⟩ = some (.int .u64 0) := (blk_cell k1 4).trans rfl; have e4 : w1.frozen? ⟨w.heap.size + 1, 4, none⟩ = false := blk_frozen k1 4; have d5 : w1.cell? ⟨w.heap.size + 1, 5, none⟩ = some (.int .u64 0) := (blk_cell k1 5).trans rfl; have e5 : w1.frozen? ⟨w.heap.size + 1, 5, none⟩ = false := blk_frozen k1 5; have d6 : w1.cell? ⟨w.heap.size + 1, 6, none⟩ = some (.int .u64 0) := (blk_cell k1 6).trans rfl; have e6 : w1.frozen? ⟨w.heap.size + 1, 6, none⟩ = false := blk_frozen k1 6; have d7 : w1.cell? ⟨w.heap.size + 1, 7, none⟩ = some (.int .i64 0) := (blk_cell k1 7).trans rfl; have e7 : w1.frozen? ⟨w.heap.size + 1, 7, none⟩ = false := blk_frozen k1 7; have d8 : w1.cell? ⟨w.heap.size + 1, 8, none⟩ = some (.int .i64 0) := (blk_cell k1 8).trans rfl; have e8 : w1.frozen? ⟨w.heap.size + 1, 8, none⟩ = false := blk_frozen k1 8; have d9 : w1.cell? ⟨w.heap.size + 1, 9, none⟩ = some (.int .i64 0) := (blk_cell k1 9).trans rfl; have e9 : w1.frozen? ⟨w.heap.size + 1, 9, none⟩ = false := blk_frozen k1 9; have d10 : w1.cell? ⟨w.heap.size + 1, 10, none⟩ = some (.int .i64 0) := (blk_cell k1 10).trans rfl; have e10 : w1.frozen? ⟨w.heap.size + 1, 10, none⟩ = false := blk_frozen k1 10; have d11 : w1.cell? ⟨w.heap.size + 1, 11, none⟩ = some (.int .i64 0) := (blk_cell k1 11).trans rfl; have e11 : w1.frozen? ⟨w.heap.size + 1, 11, none⟩ = false := blk_frozen k1 11; have d12 : w1.cell? ⟨w.heap.size + 1, 12, none⟩ = some (.int .i64 0) := (blk_cell k1 12).trans rfl; have e12 : w1.frozen? ⟨w.heap.size + 1, 12, none⟩ = false := blk_frozen k1 12; have d13 : w1.cell? ⟨w.heap.size + 1, 13, none⟩ = some (.int .i64 0) := (blk_cell k1 13).trans rfl; have e13 : w1.frozen? ⟨w.heap.size + 1, 13, none⟩ = false := blk_frozen k1 13; have d14 : w1.cell? ⟨w.heap.size + 1, 14, none⟩ = some (.int .i64 0) := (blk_cell k1 14).trans rfl; have e14 : w1.frozen? ⟨w.heap.size + 1, 14, none⟩ = false := blk_frozen k1 14; have K1 := Lib.hid k1; have HB := Lib.hid hB; clear k0 k1 hB hb1))

  have KB := filter_Of.fill w1 (w.heap.size + 1) 44 _ _ _ _ _ _ _ _ _ _ _ _ _ _ _ (.int .i64 a1) (.int .i64 a2) (.int .i64 a0_0) (.int .u64 a0_1) (.int .u64 a0_2) (.int .u64 a0_3) (.int .u64 a0_4) (.int .i64 t) (.int .i64 t) (.int .i64 a0_5) (.int .i64 a0_6) (.int .i64 a0_6) (.int .i64 a0_7) (.int .i64 a0_7) (.int .i64 a3) K1.out
  have BB : Below w.heap.size w (((((((((((((((w1.setCell ⟨w.heap.size + 1, 0, none⟩ (.int .i64 a1)).setCell ⟨w.heap.size + 1, 1, none⟩ (.int .i64 a2)).setCell ⟨w.heap.size + 1, 2, none⟩ (.int .i64 a0_0)).setCell ⟨w.heap.size + 1, 3, none⟩ (.int .u64 a0_1)).setCell ⟨w.heap.size + 1, 4, none⟩ (.int .u64 a0_2)).setCell ⟨w.heap.size + 1, 5, none⟩ (.int .u64 a0_3)).setCell ⟨w.heap.size + 1, 6, none⟩ (.int .u64 a0_4)).setCell ⟨w.heap.size + 1, 7, none⟩ (.int .i64 t)).setCell ⟨w.heap.size + 1, 8, none⟩ (.int .i64 t)).setCell ⟨w.heap.size + 1, 9, none⟩ (.int .i64 a0_5)).setCell ⟨w.heap.size + 1, 10, none⟩ (.int .i64 a0_6)).setCell ⟨w.heap.size + 1, 11, none⟩ (.int .i64 a0_6)).setCell ⟨w.heap.size + 1, 12, none⟩ (.int .i64 a0_7)).setCell ⟨w.heap.size + 1, 13, none⟩ (.int .i64 a0_7)).setCell ⟨w.heap.size + 1, 14, none⟩ (.int .i64 a3)) := filter_Of.fillB w w1 (w.heap.size + 1) (.int .i64 a1) (.int .i64 a2) (.int .i64 a0_0) (.int .u64 a0_1) (.int .u64 a0_2) (.int .u64 a0_3) (.int .u64 a0_4) (.int .i64 t) (.int .i64 t) (.int .i64 a0_5) (.int .i64 a0_6) (.int .i64 a0_6) (.int .i64 a0_7) (.int .i64 a0_7) (.int .i64 a3) HB.out (Nat.le_succ _)
  revert KB BB
  generalize (((((((((((((((w1.setCell ⟨w.heap.size + 1, 0, none⟩ (.int .i64 a1)).setCell ⟨w.heap.size + 1, 1, none⟩ (.int .i64 a2)).setCell ⟨w.heap.size + 1, 2, none⟩ (.int .i64 a0_0)).setCell ⟨w.heap.size + 1, 3, none⟩ (.int .u64 a0_1)).setCell ⟨w.heap.size + 1, 4, none⟩ (.int .u64 a0_2)).setCell ⟨w.heap.size + 1, 5, none⟩ (.int .u64 a0_3)).setCell ⟨w.heap.size + 1, 6, none⟩ (.int .u64 a0_4)).setCell ⟨w.heap.size + 1, 7, none⟩ (.int .i64 t)).setCell ⟨w.heap.size + 1, 8, none⟩ (.int .i64 t)).setCell ⟨w.heap.size + 1, 9, none⟩ (.int .i64 a0_5)).setCell ⟨w.heap.size + 1, 10, none⟩ (.int .i64 a0_6)).setCell ⟨w.heap.size + 1, 11, none⟩ (.int .i64 a0_6)).setCell ⟨w.heap.size + 1, 12, none⟩ (.int .i64 a0_7)).setCell ⟨w.heap.size + 1, 13, none⟩ (.int .i64 a0_7)).setCell ⟨w.heap.size + 1, 14, none⟩ (.int .i64 a3)) = wz
  intro KB BB
  refine bodyPost_ret (results_cell_row rfl _ _ (w.heap.size + 1) 44 #[.int .i64 a1, .int .i64 a2, .int .i64 a0_0, .int .u64 a0_1, .int .u64 a0_2, .int .u64 a0_3, .int .u64 a0_4, .int .i64 t, .int .i64 t, .int .i64 a0_5, .int .i64 a0_6, .int .i64 a0_6, .int .i64 a0_7, .int .i64 a0_7, .int .i64 a3] (0, 0) _ rfl KB Try.underlying44 rfl (by kernel_rfl)) rfl ?_
  exact ⟨rfl, BB⟩

/-! ### flashlockref12_Follows: function 94 -/
def flashlockref12_Follows.f (a0 : Int) : Option (Bool) := if a0 = 0 then (some true) else (if a0 = 43 then (some true) else (if a0 = 44 then (some true) else (some (a0 == 60))))
set_option maxHeartbeats 8000000 in
set_option maxRecDepth 100000 in
theorem flashlockref12_Follows.calls (a0 : Int) (r : Bool) (w : World) (h : flashlockref12_Follows.f a0 = some r) :
    Calls Try.prog 94 #[.int .i64 a0] w fun e w' => e = .returned (.bool r) ∧ Drawn0 w w' := by
  have H : (if a0 = 0 then (some true) else (if a0 = 43 then (some true) else (if a0 = 44 then (some true) else (some (a0 == 60))))) = some r := h
  clear h
  by_cases c2 : a0 = 0
  · rw [if_pos c2] at H
    have c2b0 : (a0 == 0) = true := beq_iff_eq.mpr c2
    have c2b1 : (a0 != 0) = false := bne_eq_false_iff_eq.mpr c2
    clear c2
    obtain rfl := Option.some.inj H
    go_enter Try.func94, Try.ntmps94
    go_wp2
    go_ret
    exact ⟨by first | rfl | (simp; done) | (simp [*]; done), by repeat (first | exact Drawn0.refl _ | apply Drawn0.step)⟩
  · rw [if_neg c2] at H
    have c2b0 : (a0 == 0) = false := beq_eq_false_iff_ne.mpr c2
    have c2b1 : (a0 != 0) = true := bne_iff_ne.mpr c2
    by_cases c3 : a0 = 43
    · rw [if_pos c3] at H
      have c3b0 : (a0 == 43) = true := beq_iff_eq.mpr c3
      have c3b1 : (a0 != 43) = false := bne_eq_false_iff_eq.mpr c3
      clear c3
      obtain rfl := Option.some.inj H
      go_enter Try.func94, Try.ntmps94
      go_wp2
      go_ret
      exact ⟨by first | rfl | (simp; done) | (simp [*]; done), by repeat (first | exact Drawn0.refl _ | apply Drawn0.step)⟩
    · rw [if_neg c3] at H
      have c3b0 : (a0 == 43) = false := beq_eq_false_iff_ne.mpr c3
      have c3b1 : (a0 != 43) = true := bne_iff_ne.mpr c3
      by_cases c4 : a0 = 44
      · rw [if_pos c4] at H
        have c4b0 : (a0 == 44) = true := beq_iff_eq.mpr c4
        have c4b1 : (a0 != 44) = false := bne_eq_false_iff_eq.mpr c4
        clear c4
        obtain rfl := Option.some.inj H
        go_enter Try.func94, Try.ntmps94
        go_wp2
        go_ret
        exact ⟨by first | rfl | (simp; done) | (simp [*]; done), by repeat (first | exact Drawn0.refl _ | apply Drawn0.step)⟩
      · rw [if_neg c4] at H
        have c4b0 : (a0 == 44) = false := beq_eq_false_iff_ne.mpr c4
        have c4b1 : (a0 != 44) = true := bne_iff_ne.mpr c4
        obtain rfl := Option.some.inj H
        go_enter Try.func94, Try.ntmps94
        go_wp2
        go_ret
        exact ⟨by first | rfl | (simp; done) | (simp [*]; done), by repeat (first | exact Drawn0.refl _ | apply Drawn0.step)⟩

end Go.Proofs.Ytlnnghbbjbimoaa.PF
