/- ipv4.addr, walked. -/
import Derived.Test.YtlnnghbbjbimoaaInetOf2
import Derived.Test.YtlnnghbbjbimoaaReaderAll
namespace Go.Proofs.Ytlnnghbbjbimoaa.Ipv4Addr
open Go Go.RowKit Go.Proofs.Ytlnnghbbjbimoaa.Reader Go.Proofs.Ytlnnghbbjbimoaa.InetOf Go.Proofs.YtlnnghbbjbimoaaW.PrintWords Go.Proofs.YtlnnghbbjbimoaaW.PrintLast Go.Proofs.YtlnnghbbjbimoaaW.PrintMore
set_option linter.unusedVariables false
set_option linter.unusedSimpArgs false
theorem of4 (s : ByteArray) (a : Nat) (w : World) (ha : a + 4 ≤ s.size) (hs : s.size < 4611686018427387904) :
    Calls Try.prog 55 #[.string (s.extract a (a + 4))] w fun e w' => e = .returned (.tuple #[.agg #[.int .u64 0, .int .u64 (nm s a 4)], .int .i64 4, .bool true]) ∧ Below w.heap.size w w' := by
  have hz : (s.extract a (a + 4)).size = 4 := by rw [ByteArray.size_extract]; omega
  have h := of_calls (s.extract a (a + 4)) w (by omega)
  have e : ov (s.extract a (a + 4)) = (0, nm s a 4, 4, true) := by
    unfold ov
    rw [if_pos hz, nm_ext s a (a + 4) ha 4 (by omega)]
  rw [e] at h
  exact h
set_option maxRecDepth 100000 in
set_option maxHeartbeats 1000000 in
theorem addr_ok (g : Nat) (s : ByteArray) (a : Nat) (w : World) (h : Rd w g s a) (hs : s.size < 4611686018427387904) (hn : a + 4 ≤ s.size) :
    Calls Try.prog 128 #[.pointer (some ⟨g, 0, none⟩)] w fun e w' => e = .returned (.agg #[.int .u64 0, .int .u64 (nm s a 4)]) ∧ Rd w' g s ((a : Int) + 4) ∧ w.grownBy w' (some g) := by
  have H := Lib.hid h; clear h
  have hg0 : g < w.heap.size := H.out.lt
  have hgr : w.heap.size ≠ g := by omega
  have HS := Lib.hid hs; have HN := Lib.hid hn; clear hs hn
  have e1 : ((a : Int)).toNat = a := by omega
  have e2 : ((a : Int) + 4).toNat = a + 4 := by omega
  go_enter Try.func128, Try.ntmps128
  go_wp2_with (first | (go_at_call 104; refine (take_ok g s a 4 _ (by exact blk_alloc H.out _) (by have := HN.out; omega) HS.out (by have := HN.out; omega)).mono ?_; rintro e w1 ⟨rfl, hr, hg⟩; rw [e1, e2]; have R1 := Lib.hid hr; have G1 := Lib.hid ((World.grownBy_alloc w _ (some g)).trans hg); have K1 : Hid (w1.heap[w.heap.size]? = some (.cells #[.int .u64 0, .int .u64 0] 37 (0, 0))) := Lib.hid (blk_grown (by exact blk_new w _) hg (by simpa using hgr)); clear hr hg) | (go_at_call 55; refine (of4 s a _ HN.out HS.out).mono ?_; rintro e w2 ⟨rfl, hb⟩; have R2 := Lib.hid (blk_below R1.out hb); have G2 := Lib.hid (G1.out.trans (grown_below hb (some g))); have K2 := Lib.hid (blk_below K1.out hb); have c0 : w2.cell? ⟨w.heap.size, 0, none⟩ = some (.int .u64 0) := (blk_cell K2.out 0).trans rfl; have c1 : w2.cell? ⟨w.heap.size, 1, none⟩ = some (.int .u64 0) := (blk_cell K2.out 1).trans rfl; have f0 := blk_frozen K2.out 0; have f1 := blk_frozen K2.out 1; have z0 : w.heap.size < w2.heap.size := blk_lt K2.out; have z1 : ¬ w.heap.size = w2.heap.size := Nat.ne_of_lt z0; clear hb))
  have hrow := Lib.hid (blk_alloc (blk_put (cs' := #[.int .u64 0, .int .u64 (nm s a 4)]) (blk_put (cs' := #[.int .u64 0, .int .u64 0]) K2.out 0 (.int .u64 0) rfl) 1 (.int .u64 (nm s a 4)) rfl) (.cells #[.int .u64 0, .int .u64 (nm s a 4)] 37 (0, 0)))
  have hrd : Hid (Rd (((w2.setCell ⟨w.heap.size, 0, none⟩ (.int .u64 0)).setCell ⟨w.heap.size, 1, none⟩ (.int .u64 (nm s a 4))).alloc (.cells #[.int .u64 0, .int .u64 (nm s a 4)] 37 (0, 0))) g s ((a : Int) + 4)) := Lib.hid (blk_alloc (blk_far (blk_far R2.out (p := ⟨w.heap.size, 0, none⟩) (Ne.symm hgr) _) (p := ⟨w.heap.size, 1, none⟩) (Ne.symm hgr) _) _)
  have hgw : Hid (w.grownBy (((w2.setCell ⟨w.heap.size, 0, none⟩ (.int .u64 0)).setCell ⟨w.heap.size, 1, none⟩ (.int .u64 (nm s a 4))).alloc (.cells #[.int .u64 0, .int .u64 (nm s a 4)] 37 (0, 0))) (some g)) := Lib.hid (by
    refine World.grownBy.trans ?_ (World.grownBy_alloc _ _ (some g))
    refine ⟨G2.out.os, G2.out.tape, G2.out.output, by simpa using G2.out.size, fun k hk hne => ?_⟩
    rw [Below.heap_setCell _ _ _ k (by simp; omega), Below.heap_setCell _ _ _ k (by simp; omega)]
    exact G2.out.block k hk hne)
  revert hrow hrd hgw
  generalize (((w2.setCell ⟨w.heap.size, 0, none⟩ (.int .u64 0)).setCell ⟨w.heap.size, 1, none⟩ (.int .u64 (nm s a 4))).alloc (.cells #[.int .u64 0, .int .u64 (nm s a 4)] 37 (0, 0))) = wz
  intro hrow hrd hgw
  have hld := run_loadVar_row (P := Try.prog) wz w.heap.size 37 37 #[.int .u64 0, .int .u64 (nm s a 4)] (0, 0) _ hrow.out Try.underlying37 rfl (by kernel_rfl)
  exact bodyPost_ret (v := .agg #[.int .u64 0, .int .u64 (nm s a 4)]) (by simp [results, Try.results128, asAddr, hld]) rfl ⟨rfl, hrd.out, hgw.out⟩
end Go.Proofs.Ytlnnghbbjbimoaa.Ipv4Addr
