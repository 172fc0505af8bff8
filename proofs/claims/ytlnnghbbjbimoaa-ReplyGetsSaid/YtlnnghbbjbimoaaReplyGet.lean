/- reply.Get, walked. -/
import Derived.Test.YtlnnghbbjbimoaaReplyClo
namespace Go.Proofs.Ytlnnghbbjbimoaa.ReplyGet
open Go Go.RowKit Go.Proofs.Ytlnnghbbjbimoaa.Reader Go.Proofs.Ytlnnghbbjbimoaa.Tries Go.Proofs.YtlnnghbbjbimoaaW.PrintWords Go.Proofs.YtlnnghbbjbimoaaW.PrintLast Go.Proofs.YtlnnghbbjbimoaaW.PrintMore
set_option linter.unusedVariables false
set_option linter.unusedSimpArgs false
theorem new_at (w : World) (o : Obj) (n : Nat) (h : w.heap.size = n) : (w.alloc o).heap[n]? = some o := h ▸ blk_new w o
theorem lay (w : World) : ((w.alloc (.cells #[.int .i64 0, .int .i64 0, .int .i64 0, .int .i64 0, .int .u32 0, .int .i64 0, .int .i64 0, .int .i64 0, .int .i64 0, .int .i64 0, .int .i64 0] 94 (0, 0))).alloc (.cells #[.int .i64 0, .int .i64 0, .int .i64 0, .int .i64 0, .int .u32 0, .int .i64 0, .int .i64 0, .int .i64 0, .int .i64 0, .int .i64 0, .int .i64 0] 94 (0, 0))).heap[w.heap.size]? = some (.cells #[.int .i64 0, .int .i64 0, .int .i64 0, .int .i64 0, .int .u32 0, .int .i64 0, .int .i64 0, .int .i64 0, .int .i64 0, .int .i64 0, .int .i64 0] 94 (0, 0)) ∧ ((w.alloc (.cells #[.int .i64 0, .int .i64 0, .int .i64 0, .int .i64 0, .int .u32 0, .int .i64 0, .int .i64 0, .int .i64 0, .int .i64 0, .int .i64 0, .int .i64 0] 94 (0, 0))).alloc (.cells #[.int .i64 0, .int .i64 0, .int .i64 0, .int .i64 0, .int .u32 0, .int .i64 0, .int .i64 0, .int .i64 0, .int .i64 0, .int .i64 0, .int .i64 0] 94 (0, 0))).heap[w.heap.size + 1]? = some (.cells #[.int .i64 0, .int .i64 0, .int .i64 0, .int .i64 0, .int .u32 0, .int .i64 0, .int .i64 0, .int .i64 0, .int .i64 0, .int .i64 0, .int .i64 0] 94 (0, 0)) ∧ Below w.heap.size w ((w.alloc (.cells #[.int .i64 0, .int .i64 0, .int .i64 0, .int .i64 0, .int .u32 0, .int .i64 0, .int .i64 0, .int .i64 0, .int .i64 0, .int .i64 0, .int .i64 0] 94 (0, 0))).alloc (.cells #[.int .i64 0, .int .i64 0, .int .i64 0, .int .i64 0, .int .u32 0, .int .i64 0, .int .i64 0, .int .i64 0, .int .i64 0, .int .i64 0, .int .i64 0] 94 (0, 0))) ∧ ((w.alloc (.cells #[.int .i64 0, .int .i64 0, .int .i64 0, .int .i64 0, .int .u32 0, .int .i64 0, .int .i64 0, .int .i64 0, .int .i64 0, .int .i64 0, .int .i64 0] 94 (0, 0))).alloc (.cells #[.int .i64 0, .int .i64 0, .int .i64 0, .int .i64 0, .int .u32 0, .int .i64 0, .int .i64 0, .int .i64 0, .int .i64 0, .int .i64 0, .int .i64 0] 94 (0, 0))).heap.size = w.heap.size + 2 := by
  refine ⟨blk_alloc (blk_new w _) _, new_at _ _ _ (by simp), ?_, by simp⟩
  exact ((Below.refl w.heap.size w).alloc (Nat.le_refl _) _).alloc (by simp) _
theorem env_of (s : ByteArray) (n : Nat) (w : World) (hz : w.heap.size = n + 2) (k1 : w.heap[n + 1]? = some (.cells #[.int .i64 0, .int .i64 0, .int .i64 0, .int .i64 0, .int .u32 0, .int .i64 0, .int .i64 0, .int .i64 0, .int .i64 0, .int .i64 0, .int .i64 0] 94 (0, 0))) :
    RE ((w.alloc (.cells #[.int .i64 0] 47 (0, 0))).alloc (.cells #[.string s, .int .i64 0] 141 (0, 0))) (n + 1) (w.heap.size + 1) (n + 1) w.heap.size s 0 0 0 0 0 0 0 0 0 0 0 0 := by
  refine ⟨new_at _ _ _ (by simp), blk_alloc (blk_alloc k1 _) _, blk_alloc (blk_new _ _) _, ?_, ?_⟩ <;> omega
set_option maxRecDepth 100000 in
theorem hent (args : Array Value) (w : World) : Sem.run Try.prog (callFunc 121 args) w = .ok (.enter 121 args) w := by first | rfl | kernel_rfl
set_option maxRecDepth 100000 in
set_option maxHeartbeats 2000000 in
theorem get_good (s : ByteArray) (w : World) (c0 c1 c2 c3 c4 c5 c6 c7 c8 c9 c10 : Int) (hclo : ∀ (n0 g bx be : Nat) (w : World), RE w n0 g bx be s 0 0 0 0 0 0 0 0 0 0 0 0 → n0 ≤ w.heap.size → Calls Try.prog 121 #[.pointer (some ⟨g, 0, none⟩), .pointer (some ⟨bx, 0, none⟩)] w fun e w' => e = .returned (.tuple #[]) ∧ (∃ a : Int, RE w' n0 g bx be s a c0 c1 c2 c3 c4 c5 c6 c7 c8 c9 c10) ∧ Below n0 w w') :
    Calls Try.prog 68 #[.string s] w fun e w' => e = .returned (.tuple #[.agg #[.int .i64 c0, .int .i64 c1, .int .i64 c2, .int .i64 c3, .int .u32 c4, .int .i64 c5, .int .i64 c6, .int .i64 c7, .int .i64 c8, .int .i64 c9, .int .i64 c10], .int .i64 0]) ∧ Below w.heap.size w w' := by
  have hmf := hmf
  obtain ⟨k0, k1, hb, hz⟩ := lay w
  have K0 := Lib.hid k0; have K1 := Lib.hid k1; have HB := Lib.hid hb; have HZ := Lib.hid hz; clear k0 k1 hb hz
  have HC := Lib.hid hclo; clear hclo
  go_enter Try.func68, Try.ntmps68
  go_wp2_with (fail)
  revert K0 K1 HB HZ
  generalize ((w.alloc (.cells #[.int .i64 0, .int .i64 0, .int .i64 0, .int .i64 0, .int .u32 0, .int .i64 0, .int .i64 0, .int .i64 0, .int .i64 0, .int .i64 0, .int .i64 0] 94 (0, 0))).alloc (.cells #[.int .i64 0, .int .i64 0, .int .i64 0, .int .i64 0, .int .u32 0, .int .i64 0, .int .i64 0, .int .i64 0, .int .i64 0, .int .i64 0, .int .i64 0] 94 (0, 0))) = wl
  intro K0 K1 HB HZ
  have E := Lib.hid (env_of s w.heap.size wl HZ.out K1.out)
  refine (try_ok s 121 _ wl (fun w' => (∃ a : Int, RE w' (w.heap.size + 1) (wl.heap.size + 1) (w.heap.size + 1) wl.heap.size s a c0 c1 c2 c3 c4 c5 c6 c7 c8 c9 c10) ∧ Below (w.heap.size + 1) wl w') hent ?hc).mono ?_
  case hc =>
    refine (HC.out _ _ _ _ _ E.out (by have := HZ.out; simp; omega)).mono ?_
    rintro e w2 ⟨rfl, ⟨a, HE⟩, hB⟩
    have hB := ((((Below.refl (w.heap.size + 1) wl).alloc (by have := HZ.out; omega) (.cells #[.int .i64 0] 47 (0, 0))).alloc (by have := HZ.out; simp; omega) (.cells #[.string s, .int .i64 0] 141 (0, 0))).trans hB)
    exact ⟨rfl, ⟨⟨_, HE⟩, hB⟩, HE.he.c, HE.he.f⟩
  rintro e w' ⟨rfl, w2, ⟨⟨a, HE⟩, hB⟩, rfl⟩
  dsimp only
  have hQ : w2.heap[w.heap.size]? = some (.cells #[.int .i64 0, .int .i64 0, .int .i64 0, .int .i64 0, .int .u32 0, .int .i64 0, .int .i64 0, .int .i64 0, .int .i64 0, .int .i64 0, .int .i64 0] 94 (0, 0)) := (hB.block _ (by have := HZ.out; omega)).trans K0.out
  have k0 : (w2.setCell ⟨wl.heap.size, 0, none⟩ (.int .i64 0)).heap[w.heap.size]? = some (.cells #[.int .i64 0, .int .i64 0, .int .i64 0, .int .i64 0, .int .u32 0, .int .i64 0, .int .i64 0, .int .i64 0, .int .i64 0, .int .i64 0, .int .i64 0] 94 (0, 0)) := blk_far hQ (p := ⟨wl.heap.size, 0, none⟩) (by show w.heap.size ≠ wl.heap.size; have := HZ.out; omega) _
  have kx : (w2.setCell ⟨wl.heap.size, 0, none⟩ (.int .i64 0)).heap[w.heap.size + 1]? = some (.cells #[.int .i64 c0, .int .i64 c1, .int .i64 c2, .int .i64 c3, .int .u32 c4, .int .i64 c5, .int .i64 c6, .int .i64 c7, .int .i64 c8, .int .i64 c9, .int .i64 c10] 94 (0, 0)) := blk_far HE.hx (p := ⟨wl.heap.size, 0, none⟩) (by show w.heap.size + 1 ≠ wl.heap.size; have := HZ.out; omega) _
  have kb := (HB.out.trans (hB.mono (Nat.le_succ _))).setCell (p := ⟨wl.heap.size, 0, none⟩) (show w.heap.size ≤ wl.heap.size by have := HZ.out; omega) (.int .i64 0)
  revert k0 kb kx
  generalize w2.setCell ⟨wl.heap.size, 0, none⟩ (.int .i64 0) = wq
  intro k0 kx kb
  have e0 : wq.cell? ⟨w.heap.size, 0, none⟩ = some (.int .i64 0) := (blk_cell k0 0).trans rfl
  have f0 := blk_frozen k0 0
  have e1 : wq.cell? ⟨w.heap.size, 1, none⟩ = some (.int .i64 0) := (blk_cell k0 1).trans rfl
  have f1 := blk_frozen k0 1
  have e2 : wq.cell? ⟨w.heap.size, 2, none⟩ = some (.int .i64 0) := (blk_cell k0 2).trans rfl
  have f2 := blk_frozen k0 2
  have e3 : wq.cell? ⟨w.heap.size, 3, none⟩ = some (.int .i64 0) := (blk_cell k0 3).trans rfl
  have f3 := blk_frozen k0 3
  have e4 : wq.cell? ⟨w.heap.size, 4, none⟩ = some (.int .u32 0) := (blk_cell k0 4).trans rfl
  have f4 := blk_frozen k0 4
  have e5 : wq.cell? ⟨w.heap.size, 5, none⟩ = some (.int .i64 0) := (blk_cell k0 5).trans rfl
  have f5 := blk_frozen k0 5
  have e6 : wq.cell? ⟨w.heap.size, 6, none⟩ = some (.int .i64 0) := (blk_cell k0 6).trans rfl
  have f6 := blk_frozen k0 6
  have e7 : wq.cell? ⟨w.heap.size, 7, none⟩ = some (.int .i64 0) := (blk_cell k0 7).trans rfl
  have f7 := blk_frozen k0 7
  have e8 : wq.cell? ⟨w.heap.size, 8, none⟩ = some (.int .i64 0) := (blk_cell k0 8).trans rfl
  have f8 := blk_frozen k0 8
  have e9 : wq.cell? ⟨w.heap.size, 9, none⟩ = some (.int .i64 0) := (blk_cell k0 9).trans rfl
  have f9 := blk_frozen k0 9
  have e10 : wq.cell? ⟨w.heap.size, 10, none⟩ = some (.int .i64 0) := (blk_cell k0 10).trans rfl
  have f10 := blk_frozen k0 10
  have d0 : wq.cell? ⟨w.heap.size + 1, 0, none⟩ = some (.int .i64 c0) := (blk_cell kx 0).trans rfl
  have d1 : wq.cell? ⟨w.heap.size + 1, 1, none⟩ = some (.int .i64 c1) := (blk_cell kx 1).trans rfl
  have d2 : wq.cell? ⟨w.heap.size + 1, 2, none⟩ = some (.int .i64 c2) := (blk_cell kx 2).trans rfl
  have d3 : wq.cell? ⟨w.heap.size + 1, 3, none⟩ = some (.int .i64 c3) := (blk_cell kx 3).trans rfl
  have d4 : wq.cell? ⟨w.heap.size + 1, 4, none⟩ = some (.int .u32 c4) := (blk_cell kx 4).trans rfl
  have d5 : wq.cell? ⟨w.heap.size + 1, 5, none⟩ = some (.int .i64 c5) := (blk_cell kx 5).trans rfl
  have d6 : wq.cell? ⟨w.heap.size + 1, 6, none⟩ = some (.int .i64 c6) := (blk_cell kx 6).trans rfl
  have d7 : wq.cell? ⟨w.heap.size + 1, 7, none⟩ = some (.int .i64 c7) := (blk_cell kx 7).trans rfl
  have d8 : wq.cell? ⟨w.heap.size + 1, 8, none⟩ = some (.int .i64 c8) := (blk_cell kx 8).trans rfl
  have d9 : wq.cell? ⟨w.heap.size + 1, 9, none⟩ = some (.int .i64 c9) := (blk_cell kx 9).trans rfl
  have d10 : wq.cell? ⟨w.heap.size + 1, 10, none⟩ = some (.int .i64 c10) := (blk_cell kx 10).trans rfl
  have KB := Lib.hid kb; have K00 := Lib.hid k0; have KX := Lib.hid kx
  clear k0 kb kx hQ HE hB E HC HB HZ K0 K1
  go_wp2
  have hrow := Lib.hid (blk_put (cs := #[.int .i64 c0, .int .i64 c1, .int .i64 c2, .int .i64 c3, .int .u32 c4, .int .i64 c5, .int .i64 c6, .int .i64 c7, .int .i64 c8, .int .i64 c9, .int .i64 0]) (cs' := #[.int .i64 c0, .int .i64 c1, .int .i64 c2, .int .i64 c3, .int .u32 c4, .int .i64 c5, .int .i64 c6, .int .i64 c7, .int .i64 c8, .int .i64 c9, .int .i64 c10]) (blk_put (cs := #[.int .i64 c0, .int .i64 c1, .int .i64 c2, .int .i64 c3, .int .u32 c4, .int .i64 c5, .int .i64 c6, .int .i64 c7, .int .i64 c8, .int .i64 0, .int .i64 0]) (cs' := #[.int .i64 c0, .int .i64 c1, .int .i64 c2, .int .i64 c3, .int .u32 c4, .int .i64 c5, .int .i64 c6, .int .i64 c7, .int .i64 c8, .int .i64 c9, .int .i64 0]) (blk_put (cs := #[.int .i64 c0, .int .i64 c1, .int .i64 c2, .int .i64 c3, .int .u32 c4, .int .i64 c5, .int .i64 c6, .int .i64 c7, .int .i64 0, .int .i64 0, .int .i64 0]) (cs' := #[.int .i64 c0, .int .i64 c1, .int .i64 c2, .int .i64 c3, .int .u32 c4, .int .i64 c5, .int .i64 c6, .int .i64 c7, .int .i64 c8, .int .i64 0, .int .i64 0]) (blk_put (cs := #[.int .i64 c0, .int .i64 c1, .int .i64 c2, .int .i64 c3, .int .u32 c4, .int .i64 c5, .int .i64 c6, .int .i64 0, .int .i64 0, .int .i64 0, .int .i64 0]) (cs' := #[.int .i64 c0, .int .i64 c1, .int .i64 c2, .int .i64 c3, .int .u32 c4, .int .i64 c5, .int .i64 c6, .int .i64 c7, .int .i64 0, .int .i64 0, .int .i64 0]) (blk_put (cs := #[.int .i64 c0, .int .i64 c1, .int .i64 c2, .int .i64 c3, .int .u32 c4, .int .i64 c5, .int .i64 0, .int .i64 0, .int .i64 0, .int .i64 0, .int .i64 0]) (cs' := #[.int .i64 c0, .int .i64 c1, .int .i64 c2, .int .i64 c3, .int .u32 c4, .int .i64 c5, .int .i64 c6, .int .i64 0, .int .i64 0, .int .i64 0, .int .i64 0]) (blk_put (cs := #[.int .i64 c0, .int .i64 c1, .int .i64 c2, .int .i64 c3, .int .u32 c4, .int .i64 0, .int .i64 0, .int .i64 0, .int .i64 0, .int .i64 0, .int .i64 0]) (cs' := #[.int .i64 c0, .int .i64 c1, .int .i64 c2, .int .i64 c3, .int .u32 c4, .int .i64 c5, .int .i64 0, .int .i64 0, .int .i64 0, .int .i64 0, .int .i64 0]) (blk_put (cs := #[.int .i64 c0, .int .i64 c1, .int .i64 c2, .int .i64 c3, .int .u32 0, .int .i64 0, .int .i64 0, .int .i64 0, .int .i64 0, .int .i64 0, .int .i64 0]) (cs' := #[.int .i64 c0, .int .i64 c1, .int .i64 c2, .int .i64 c3, .int .u32 c4, .int .i64 0, .int .i64 0, .int .i64 0, .int .i64 0, .int .i64 0, .int .i64 0]) (blk_put (cs := #[.int .i64 c0, .int .i64 c1, .int .i64 c2, .int .i64 0, .int .u32 0, .int .i64 0, .int .i64 0, .int .i64 0, .int .i64 0, .int .i64 0, .int .i64 0]) (cs' := #[.int .i64 c0, .int .i64 c1, .int .i64 c2, .int .i64 c3, .int .u32 0, .int .i64 0, .int .i64 0, .int .i64 0, .int .i64 0, .int .i64 0, .int .i64 0]) (blk_put (cs := #[.int .i64 c0, .int .i64 c1, .int .i64 0, .int .i64 0, .int .u32 0, .int .i64 0, .int .i64 0, .int .i64 0, .int .i64 0, .int .i64 0, .int .i64 0]) (cs' := #[.int .i64 c0, .int .i64 c1, .int .i64 c2, .int .i64 0, .int .u32 0, .int .i64 0, .int .i64 0, .int .i64 0, .int .i64 0, .int .i64 0, .int .i64 0]) (blk_put (cs := #[.int .i64 c0, .int .i64 0, .int .i64 0, .int .i64 0, .int .u32 0, .int .i64 0, .int .i64 0, .int .i64 0, .int .i64 0, .int .i64 0, .int .i64 0]) (cs' := #[.int .i64 c0, .int .i64 c1, .int .i64 0, .int .i64 0, .int .u32 0, .int .i64 0, .int .i64 0, .int .i64 0, .int .i64 0, .int .i64 0, .int .i64 0]) (blk_put (cs := #[.int .i64 0, .int .i64 0, .int .i64 0, .int .i64 0, .int .u32 0, .int .i64 0, .int .i64 0, .int .i64 0, .int .i64 0, .int .i64 0, .int .i64 0]) (cs' := #[.int .i64 c0, .int .i64 0, .int .i64 0, .int .i64 0, .int .u32 0, .int .i64 0, .int .i64 0, .int .i64 0, .int .i64 0, .int .i64 0, .int .i64 0]) K00.out 0 (.int .i64 c0) rfl) 1 (.int .i64 c1) rfl) 2 (.int .i64 c2) rfl) 3 (.int .i64 c3) rfl) 4 (.int .u32 c4) rfl) 5 (.int .i64 c5) rfl) 6 (.int .i64 c6) rfl) 7 (.int .i64 c7) rfl) 8 (.int .i64 c8) rfl) 9 (.int .i64 c9) rfl) 10 (.int .i64 c10) rfl)
  have hbz := Lib.hid (show Below w.heap.size w (((((((((((wq.setCell ⟨w.heap.size, 0, none⟩ (.int .i64 c0)).setCell ⟨w.heap.size, 1, none⟩ (.int .i64 c1)).setCell ⟨w.heap.size, 2, none⟩ (.int .i64 c2)).setCell ⟨w.heap.size, 3, none⟩ (.int .i64 c3)).setCell ⟨w.heap.size, 4, none⟩ (.int .u32 c4)).setCell ⟨w.heap.size, 5, none⟩ (.int .i64 c5)).setCell ⟨w.heap.size, 6, none⟩ (.int .i64 c6)).setCell ⟨w.heap.size, 7, none⟩ (.int .i64 c7)).setCell ⟨w.heap.size, 8, none⟩ (.int .i64 c8)).setCell ⟨w.heap.size, 9, none⟩ (.int .i64 c9)).setCell ⟨w.heap.size, 10, none⟩ (.int .i64 c10)) from (((((((((((KB.out).setCell (p := ⟨w.heap.size, 0, none⟩) (Nat.le_refl _) _).setCell (p := ⟨w.heap.size, 1, none⟩) (Nat.le_refl _) _).setCell (p := ⟨w.heap.size, 2, none⟩) (Nat.le_refl _) _).setCell (p := ⟨w.heap.size, 3, none⟩) (Nat.le_refl _) _).setCell (p := ⟨w.heap.size, 4, none⟩) (Nat.le_refl _) _).setCell (p := ⟨w.heap.size, 5, none⟩) (Nat.le_refl _) _).setCell (p := ⟨w.heap.size, 6, none⟩) (Nat.le_refl _) _).setCell (p := ⟨w.heap.size, 7, none⟩) (Nat.le_refl _) _).setCell (p := ⟨w.heap.size, 8, none⟩) (Nat.le_refl _) _).setCell (p := ⟨w.heap.size, 9, none⟩) (Nat.le_refl _) _).setCell (p := ⟨w.heap.size, 10, none⟩) (Nat.le_refl _) _)
  revert hrow hbz
  generalize (((((((((((wq.setCell ⟨w.heap.size, 0, none⟩ (.int .i64 c0)).setCell ⟨w.heap.size, 1, none⟩ (.int .i64 c1)).setCell ⟨w.heap.size, 2, none⟩ (.int .i64 c2)).setCell ⟨w.heap.size, 3, none⟩ (.int .i64 c3)).setCell ⟨w.heap.size, 4, none⟩ (.int .u32 c4)).setCell ⟨w.heap.size, 5, none⟩ (.int .i64 c5)).setCell ⟨w.heap.size, 6, none⟩ (.int .i64 c6)).setCell ⟨w.heap.size, 7, none⟩ (.int .i64 c7)).setCell ⟨w.heap.size, 8, none⟩ (.int .i64 c8)).setCell ⟨w.heap.size, 9, none⟩ (.int .i64 c9)).setCell ⟨w.heap.size, 10, none⟩ (.int .i64 c10)) = wz
  intro hrow hbz
  have hld := run_loadVar_row (P := Try.prog) wz w.heap.size 94 94 #[.int .i64 c0, .int .i64 c1, .int .i64 c2, .int .i64 c3, .int .u32 c4, .int .i64 c5, .int .i64 c6, .int .i64 c7, .int .i64 c8, .int .i64 c9, .int .i64 c10] (0, 0) _ hrow.out Try.underlying94 rfl (by kernel_rfl)
  exact bodyPost_ret (v := .tuple #[.agg #[.int .i64 c0, .int .i64 c1, .int .i64 c2, .int .i64 c3, .int .u32 c4, .int .i64 c5, .int .i64 c6, .int .i64 c7, .int .i64 c8, .int .i64 c9, .int .i64 c10], .int .i64 0]) (by simp [results, Try.results68, asAddr, hld]) rfl ⟨rfl, hbz.out⟩
set_option maxRecDepth 100000 in
set_option maxHeartbeats 2000000 in
theorem get_bad (s : ByteArray) (w : World) (er : Int) (her : (er == 0) = false) (hclo : ∀ (n0 g bx be : Nat) (w : World), RE w n0 g bx be s 0 0 0 0 0 0 0 0 0 0 0 0 → n0 ≤ w.heap.size → Calls Try.prog 121 #[.pointer (some ⟨g, 0, none⟩), .pointer (some ⟨bx, 0, none⟩)] w fun e w' => e = .panicked (up er) ∧ Blk w' be (.int .i64 0) 47 ∧ Below n0 w w') :
    Calls Try.prog 68 #[.string s] w fun e w' => e = .returned (.tuple #[.agg #[.int .i64 0, .int .i64 0, .int .i64 0, .int .i64 0, .int .u32 0, .int .i64 0, .int .i64 0, .int .i64 0, .int .i64 0, .int .i64 0, .int .i64 0], .int .i64 er]) ∧ Below w.heap.size w w' := by
  have hmf := hmf
  obtain ⟨k0, k1, hb, hz⟩ := lay w
  have K0 := Lib.hid k0; have K1 := Lib.hid k1; have HB := Lib.hid hb; have HZ := Lib.hid hz; clear k0 k1 hb hz
  have HC := Lib.hid hclo; clear hclo
  go_enter Try.func68, Try.ntmps68
  go_wp2_with (fail)
  revert K0 K1 HB HZ
  generalize ((w.alloc (.cells #[.int .i64 0, .int .i64 0, .int .i64 0, .int .i64 0, .int .u32 0, .int .i64 0, .int .i64 0, .int .i64 0, .int .i64 0, .int .i64 0, .int .i64 0] 94 (0, 0))).alloc (.cells #[.int .i64 0, .int .i64 0, .int .i64 0, .int .i64 0, .int .u32 0, .int .i64 0, .int .i64 0, .int .i64 0, .int .i64 0, .int .i64 0, .int .i64 0] 94 (0, 0))) = wl
  intro K0 K1 HB HZ
  have E := Lib.hid (env_of s w.heap.size wl HZ.out K1.out)
  refine (try_up s 121 _ er wl (fun w' => Blk w' wl.heap.size (.int .i64 0) 47 ∧ Below (w.heap.size + 1) wl w') hent ?hc).mono ?_
  case hc =>
    refine (HC.out _ _ _ _ _ E.out (by have := HZ.out; simp; omega)).mono ?_
    rintro e w2 ⟨rfl, HE, hB⟩
    have hB := ((((Below.refl (w.heap.size + 1) wl).alloc (by have := HZ.out; omega) (.cells #[.int .i64 0] 47 (0, 0))).alloc (by have := HZ.out; simp; omega) (.cells #[.string s, .int .i64 0] 141 (0, 0))).trans hB)
    exact ⟨rfl, ⟨HE, hB⟩, HE.c, HE.f⟩
  rintro e w' ⟨rfl, w2, ⟨HE, hB⟩, rfl⟩
  dsimp only
  have hQ : w2.heap[w.heap.size]? = some (.cells #[.int .i64 0, .int .i64 0, .int .i64 0, .int .i64 0, .int .u32 0, .int .i64 0, .int .i64 0, .int .i64 0, .int .i64 0, .int .i64 0, .int .i64 0] 94 (0, 0)) := (hB.block _ (by have := HZ.out; omega)).trans K0.out
  have k0 : ((w2.setCell ⟨wl.heap.size, 0, none⟩ (.int .i64 er)).alloc (.cells #[.int .i64 er] 139 (0, 0))).heap[w.heap.size]? = some (.cells #[.int .i64 0, .int .i64 0, .int .i64 0, .int .i64 0, .int .u32 0, .int .i64 0, .int .i64 0, .int .i64 0, .int .i64 0, .int .i64 0, .int .i64 0] 94 (0, 0)) := blk_alloc (blk_far hQ (p := ⟨wl.heap.size, 0, none⟩) (by show w.heap.size ≠ wl.heap.size; have := HZ.out; omega) _) _
  have kb := ((HB.out.trans (hB.mono (Nat.le_succ _))).setCell (p := ⟨wl.heap.size, 0, none⟩) (show w.heap.size ≤ wl.heap.size by have := HZ.out; omega) (.int .i64 er)).alloc (by have := hB.size; have := HZ.out; simp; omega) (.cells #[.int .i64 er] 139 (0, 0))
  revert k0 kb
  generalize (w2.setCell ⟨wl.heap.size, 0, none⟩ (.int .i64 er)).alloc (.cells #[.int .i64 er] 139 (0, 0)) = wq
  intro k0 kb
  have e0 : wq.cell? ⟨w.heap.size, 0, none⟩ = some (.int .i64 0) := (blk_cell k0 0).trans rfl
  have f0 := blk_frozen k0 0
  have e1 : wq.cell? ⟨w.heap.size, 1, none⟩ = some (.int .i64 0) := (blk_cell k0 1).trans rfl
  have f1 := blk_frozen k0 1
  have e2 : wq.cell? ⟨w.heap.size, 2, none⟩ = some (.int .i64 0) := (blk_cell k0 2).trans rfl
  have f2 := blk_frozen k0 2
  have e3 : wq.cell? ⟨w.heap.size, 3, none⟩ = some (.int .i64 0) := (blk_cell k0 3).trans rfl
  have f3 := blk_frozen k0 3
  have e4 : wq.cell? ⟨w.heap.size, 4, none⟩ = some (.int .u32 0) := (blk_cell k0 4).trans rfl
  have f4 := blk_frozen k0 4
  have e5 : wq.cell? ⟨w.heap.size, 5, none⟩ = some (.int .i64 0) := (blk_cell k0 5).trans rfl
  have f5 := blk_frozen k0 5
  have e6 : wq.cell? ⟨w.heap.size, 6, none⟩ = some (.int .i64 0) := (blk_cell k0 6).trans rfl
  have f6 := blk_frozen k0 6
  have e7 : wq.cell? ⟨w.heap.size, 7, none⟩ = some (.int .i64 0) := (blk_cell k0 7).trans rfl
  have f7 := blk_frozen k0 7
  have e8 : wq.cell? ⟨w.heap.size, 8, none⟩ = some (.int .i64 0) := (blk_cell k0 8).trans rfl
  have f8 := blk_frozen k0 8
  have e9 : wq.cell? ⟨w.heap.size, 9, none⟩ = some (.int .i64 0) := (blk_cell k0 9).trans rfl
  have f9 := blk_frozen k0 9
  have e10 : wq.cell? ⟨w.heap.size, 10, none⟩ = some (.int .i64 0) := (blk_cell k0 10).trans rfl
  have f10 := blk_frozen k0 10
  have her' : (er != 0) = true := by simpa using her
  have KB := Lib.hid kb; have K00 := Lib.hid k0
  clear k0 kb hQ HE hB E HC HB HZ K0 K1
  go_wp2
  have hrow := Lib.hid (blk_put (cs := #[.int .i64 0, .int .i64 0, .int .i64 0, .int .i64 0, .int .u32 0, .int .i64 0, .int .i64 0, .int .i64 0, .int .i64 0, .int .i64 0, .int .i64 0]) (cs' := #[.int .i64 0, .int .i64 0, .int .i64 0, .int .i64 0, .int .u32 0, .int .i64 0, .int .i64 0, .int .i64 0, .int .i64 0, .int .i64 0, .int .i64 0]) (blk_put (cs := #[.int .i64 0, .int .i64 0, .int .i64 0, .int .i64 0, .int .u32 0, .int .i64 0, .int .i64 0, .int .i64 0, .int .i64 0, .int .i64 0, .int .i64 0]) (cs' := #[.int .i64 0, .int .i64 0, .int .i64 0, .int .i64 0, .int .u32 0, .int .i64 0, .int .i64 0, .int .i64 0, .int .i64 0, .int .i64 0, .int .i64 0]) (blk_put (cs := #[.int .i64 0, .int .i64 0, .int .i64 0, .int .i64 0, .int .u32 0, .int .i64 0, .int .i64 0, .int .i64 0, .int .i64 0, .int .i64 0, .int .i64 0]) (cs' := #[.int .i64 0, .int .i64 0, .int .i64 0, .int .i64 0, .int .u32 0, .int .i64 0, .int .i64 0, .int .i64 0, .int .i64 0, .int .i64 0, .int .i64 0]) (blk_put (cs := #[.int .i64 0, .int .i64 0, .int .i64 0, .int .i64 0, .int .u32 0, .int .i64 0, .int .i64 0, .int .i64 0, .int .i64 0, .int .i64 0, .int .i64 0]) (cs' := #[.int .i64 0, .int .i64 0, .int .i64 0, .int .i64 0, .int .u32 0, .int .i64 0, .int .i64 0, .int .i64 0, .int .i64 0, .int .i64 0, .int .i64 0]) (blk_put (cs := #[.int .i64 0, .int .i64 0, .int .i64 0, .int .i64 0, .int .u32 0, .int .i64 0, .int .i64 0, .int .i64 0, .int .i64 0, .int .i64 0, .int .i64 0]) (cs' := #[.int .i64 0, .int .i64 0, .int .i64 0, .int .i64 0, .int .u32 0, .int .i64 0, .int .i64 0, .int .i64 0, .int .i64 0, .int .i64 0, .int .i64 0]) (blk_put (cs := #[.int .i64 0, .int .i64 0, .int .i64 0, .int .i64 0, .int .u32 0, .int .i64 0, .int .i64 0, .int .i64 0, .int .i64 0, .int .i64 0, .int .i64 0]) (cs' := #[.int .i64 0, .int .i64 0, .int .i64 0, .int .i64 0, .int .u32 0, .int .i64 0, .int .i64 0, .int .i64 0, .int .i64 0, .int .i64 0, .int .i64 0]) (blk_put (cs := #[.int .i64 0, .int .i64 0, .int .i64 0, .int .i64 0, .int .u32 0, .int .i64 0, .int .i64 0, .int .i64 0, .int .i64 0, .int .i64 0, .int .i64 0]) (cs' := #[.int .i64 0, .int .i64 0, .int .i64 0, .int .i64 0, .int .u32 0, .int .i64 0, .int .i64 0, .int .i64 0, .int .i64 0, .int .i64 0, .int .i64 0]) (blk_put (cs := #[.int .i64 0, .int .i64 0, .int .i64 0, .int .i64 0, .int .u32 0, .int .i64 0, .int .i64 0, .int .i64 0, .int .i64 0, .int .i64 0, .int .i64 0]) (cs' := #[.int .i64 0, .int .i64 0, .int .i64 0, .int .i64 0, .int .u32 0, .int .i64 0, .int .i64 0, .int .i64 0, .int .i64 0, .int .i64 0, .int .i64 0]) (blk_put (cs := #[.int .i64 0, .int .i64 0, .int .i64 0, .int .i64 0, .int .u32 0, .int .i64 0, .int .i64 0, .int .i64 0, .int .i64 0, .int .i64 0, .int .i64 0]) (cs' := #[.int .i64 0, .int .i64 0, .int .i64 0, .int .i64 0, .int .u32 0, .int .i64 0, .int .i64 0, .int .i64 0, .int .i64 0, .int .i64 0, .int .i64 0]) (blk_put (cs := #[.int .i64 0, .int .i64 0, .int .i64 0, .int .i64 0, .int .u32 0, .int .i64 0, .int .i64 0, .int .i64 0, .int .i64 0, .int .i64 0, .int .i64 0]) (cs' := #[.int .i64 0, .int .i64 0, .int .i64 0, .int .i64 0, .int .u32 0, .int .i64 0, .int .i64 0, .int .i64 0, .int .i64 0, .int .i64 0, .int .i64 0]) (blk_put (cs := #[.int .i64 0, .int .i64 0, .int .i64 0, .int .i64 0, .int .u32 0, .int .i64 0, .int .i64 0, .int .i64 0, .int .i64 0, .int .i64 0, .int .i64 0]) (cs' := #[.int .i64 0, .int .i64 0, .int .i64 0, .int .i64 0, .int .u32 0, .int .i64 0, .int .i64 0, .int .i64 0, .int .i64 0, .int .i64 0, .int .i64 0]) K00.out 0 (.int .i64 0) rfl) 1 (.int .i64 0) rfl) 2 (.int .i64 0) rfl) 3 (.int .i64 0) rfl) 4 (.int .u32 0) rfl) 5 (.int .i64 0) rfl) 6 (.int .i64 0) rfl) 7 (.int .i64 0) rfl) 8 (.int .i64 0) rfl) 9 (.int .i64 0) rfl) 10 (.int .i64 0) rfl)
  have hbz := Lib.hid (show Below w.heap.size w (((((((((((wq.setCell ⟨w.heap.size, 0, none⟩ (.int .i64 0)).setCell ⟨w.heap.size, 1, none⟩ (.int .i64 0)).setCell ⟨w.heap.size, 2, none⟩ (.int .i64 0)).setCell ⟨w.heap.size, 3, none⟩ (.int .i64 0)).setCell ⟨w.heap.size, 4, none⟩ (.int .u32 0)).setCell ⟨w.heap.size, 5, none⟩ (.int .i64 0)).setCell ⟨w.heap.size, 6, none⟩ (.int .i64 0)).setCell ⟨w.heap.size, 7, none⟩ (.int .i64 0)).setCell ⟨w.heap.size, 8, none⟩ (.int .i64 0)).setCell ⟨w.heap.size, 9, none⟩ (.int .i64 0)).setCell ⟨w.heap.size, 10, none⟩ (.int .i64 0)) from (((((((((((KB.out).setCell (p := ⟨w.heap.size, 0, none⟩) (Nat.le_refl _) _).setCell (p := ⟨w.heap.size, 1, none⟩) (Nat.le_refl _) _).setCell (p := ⟨w.heap.size, 2, none⟩) (Nat.le_refl _) _).setCell (p := ⟨w.heap.size, 3, none⟩) (Nat.le_refl _) _).setCell (p := ⟨w.heap.size, 4, none⟩) (Nat.le_refl _) _).setCell (p := ⟨w.heap.size, 5, none⟩) (Nat.le_refl _) _).setCell (p := ⟨w.heap.size, 6, none⟩) (Nat.le_refl _) _).setCell (p := ⟨w.heap.size, 7, none⟩) (Nat.le_refl _) _).setCell (p := ⟨w.heap.size, 8, none⟩) (Nat.le_refl _) _).setCell (p := ⟨w.heap.size, 9, none⟩) (Nat.le_refl _) _).setCell (p := ⟨w.heap.size, 10, none⟩) (Nat.le_refl _) _)
  revert hrow hbz
  generalize (((((((((((wq.setCell ⟨w.heap.size, 0, none⟩ (.int .i64 0)).setCell ⟨w.heap.size, 1, none⟩ (.int .i64 0)).setCell ⟨w.heap.size, 2, none⟩ (.int .i64 0)).setCell ⟨w.heap.size, 3, none⟩ (.int .i64 0)).setCell ⟨w.heap.size, 4, none⟩ (.int .u32 0)).setCell ⟨w.heap.size, 5, none⟩ (.int .i64 0)).setCell ⟨w.heap.size, 6, none⟩ (.int .i64 0)).setCell ⟨w.heap.size, 7, none⟩ (.int .i64 0)).setCell ⟨w.heap.size, 8, none⟩ (.int .i64 0)).setCell ⟨w.heap.size, 9, none⟩ (.int .i64 0)).setCell ⟨w.heap.size, 10, none⟩ (.int .i64 0)) = wz
  intro hrow hbz
  have hld := run_loadVar_row (P := Try.prog) wz w.heap.size 94 94 #[.int .i64 0, .int .i64 0, .int .i64 0, .int .i64 0, .int .u32 0, .int .i64 0, .int .i64 0, .int .i64 0, .int .i64 0, .int .i64 0, .int .i64 0] (0, 0) _ hrow.out Try.underlying94 rfl (by kernel_rfl)
  exact bodyPost_ret (v := .tuple #[.agg #[.int .i64 0, .int .i64 0, .int .i64 0, .int .i64 0, .int .u32 0, .int .i64 0, .int .i64 0, .int .i64 0, .int .i64 0, .int .i64 0, .int .i64 0], .int .i64 er]) (by simp [results, Try.results68, asAddr, hld]) rfl ⟨rfl, hbz.out⟩
/-- the places of reply's numbers -/
def rp (s : ByteArray) : Nat → Int
  | 0 => 0
  | 1 => 1
  | 2 => 2
  | 5 => rp s 4 + 4
  | k + 1 => rp s k + vN s (rp s k)
/-- what reply.Get answers: the error, and the numbers -/
def rg (s : ByteArray) : Int := t0 s 0
def rv (s : ByteArray) (i : Nat) : Int := if rg s = 0 then (match i with | 0 => nm s 0 1 | 1 => nm s 1 1 | 2 => vV s (rp s 2) | 3 => vV s (rp s 3) | 4 => nm s (rp s 4) 4 | 5 => vV s (rp s 5) | 6 => vV s (rp s 6) | 7 => vV s (rp s 7) | 8 => vV s (rp s 8) | 9 => vV s (rp s 9) | 10 => vV s (rp s 10) | _ => 0) else 0
theorem get_calls (s : ByteArray) (w : World) (hs : s.size < 4611686018427387904) :
    Calls Try.prog 68 #[.string s] w fun e w' => e = .returned (.tuple #[.agg #[.int .i64 (rv s 0), .int .i64 (rv s 1), .int .i64 (rv s 2), .int .i64 (rv s 3), .int .u32 (rv s 4), .int .i64 (rv s 5), .int .i64 (rv s 6), .int .i64 (rv s 7), .int .i64 (rv s 8), .int .i64 (rv s 9), .int .i64 (rv s 10)], .int .i64 (rg s)]) ∧ Below w.heap.size w w' := by
  have hclo := fun (n0 g bx be : Nat) (w : World) E hn => clo n0 g bx be s w (rp s 1) (rp s 2) (rp s 3) (rp s 4) (rp s 5) (rp s 6) (rp s 7) (rp s 8) (rp s 9) (rp s 10) (rp s 11) (rg s) rfl rfl rfl rfl rfl rfl rfl rfl rfl rfl rfl rfl E hn hs
  by_cases hg : rg s = 0
  · have hv : ∀ i, rv s i = (match i with | 0 => nm s 0 1 | 1 => nm s 1 1 | 2 => vV s (rp s 2) | 3 => vV s (rp s 3) | 4 => nm s (rp s 4) 4 | 5 => vV s (rp s 5) | 6 => vV s (rp s 6) | 7 => vV s (rp s 7) | 8 => vV s (rp s 8) | 9 => vV s (rp s 9) | 10 => vV s (rp s 10) | _ => 0) := fun i => by unfold rv; rw [if_pos hg]
    simp only [hv, hg]
    refine get_good s w _ _ _ _ _ _ _ _ _ _ _ (fun n0 g bx be w E hn => (hclo n0 g bx be w E hn).mono fun e w' h => ?_)
    unfold PostR at h
    exact ⟨(h.1 hg).1, (h.1 hg).2, h.2.2⟩
  · have hv : ∀ i, rv s i = 0 := fun i => by unfold rv; rw [if_neg hg]
    simp only [hv]
    refine get_bad s w (rg s) (by simpa using hg) (fun n0 g bx be w E hn => (hclo n0 g bx be w E hn).mono fun e w' h => ?_)
    unfold PostR at h
    exact ⟨(h.2.1 hg).1, (h.2.1 hg).2.2, h.2.2⟩
end Go.Proofs.Ytlnnghbbjbimoaa.ReplyGet
