/- The law Ipv4Tells: the sum of any bytes, and what any bytes tell as a header, or why they tell nothing, is the document's. For all texts. -/
import Derived.Test.YtlnnghbbjbimoaaIpv4R
import Derived.Test.YtlnnghbbjbimoaaIpv4M
import Derived.Test.YtlnnghbbjbimoaaWEqStruct
import Derived.Test.YtlnnghbbjbimoaaPVx2
import Derived.Test.YtlnnghbbjbimoaaPVx1
import Derived.Test.YtlnnghbbjbimoaaPVx4
import Derived.Test.YtlnnghbbjbimoaaPVx5
namespace Go.Proofs.Ytlnnghbbjbimoaa.Ipv4T
open Go Go.RowKit Go.Proofs.Ytlnnghbbjbimoaa.PV Go.Proofs.Ytlnnghbbjbimoaa.Ipv4P Go.Proofs.Ytlnnghbbjbimoaa.Ipv4R Go.Proofs.YtlnnghbbjbimoaaW.PrintWords Go.Proofs.YtlnnghbbjbimoaaW.PrintLast Go.Proofs.YtlnnghbbjbimoaaW.PrintMore
set_option linter.unusedVariables false
set_option linter.unusedSimpArgs false
theorem eqA37 (d : Nat) (w : World) (x0 y0 : Int) (x1 y1 : Int) :
    (Op.equalIn (d + 2) 37 (.agg #[.int .u64 x0, .int .u64 x1]) (.agg #[.int .u64 y0, .int .u64 y1])).run Try.prog w = .ok (x0 == y0 && (x1 == y1)) w := by
  refine eqA_of Try.underlying37 (by kernel_rfl) ?_
  refine eqf_cons (by rfl) (by go_simp; rfl) (by go_simp; rfl) (by go_simp) ?_
  exact eqf_last (by rfl) (by go_simp; rfl) (by go_simp; rfl) (by go_simp)
theorem eqA115 (d : Nat) (w : World) (x0 y0 : Int) (x1 y1 : Int) (x2 y2 : Int) (x3 y3 : Int) (x4 y4 : Int) (x5 y5 : Int) (x6 y6 : Int) (x7 y7 : Int) (x8 y8 : Bool) :
    (Op.equalIn (d + 3) 115 (.agg #[.int .u64 x0, .int .u64 x1, .int .u64 x2, .int .u64 x3, .int .i64 x4, .int .i64 x5, .int .i64 x6, .int .i64 x7, .bool x8]) (.agg #[.int .u64 y0, .int .u64 y1, .int .u64 y2, .int .u64 y3, .int .i64 y4, .int .i64 y5, .int .i64 y6, .int .i64 y7, .bool y8])).run Try.prog w = .ok ((x0 == y0 && (x1 == y1)) && ((x2 == y2 && (x3 == y3)) && (x4 == y4 && (x5 == y5 && (x6 == y6 && (x7 == y7 && (x8 == y8))))))) w := by
  refine eqA_of Try.underlying115 (by kernel_rfl) ?_
  refine eqf_cons (by rfl) (by go_simp) (by go_simp) (eqA37 (d + 0) w _ _ _ _) ?_
  refine eqf_cons (by rfl) (by go_simp) (by go_simp) (eqA37 (d + 0) w _ _ _ _) ?_
  refine eqf_cons (by rfl) (by go_simp; rfl) (by go_simp; rfl) (by go_simp) ?_
  refine eqf_cons (by rfl) (by go_simp; rfl) (by go_simp; rfl) (by go_simp) ?_
  refine eqf_cons (by rfl) (by go_simp; rfl) (by go_simp; rfl) (by go_simp) ?_
  refine eqf_cons (by rfl) (by go_simp; rfl) (by go_simp; rfl) (by go_simp) ?_
  exact eqf_last (by rfl) (by go_simp; rfl) (by go_simp; rfl) (by go_simp)
attribute [local go_sem high] eqA115
set_option maxRecDepth 100000 in
set_option maxHeartbeats 2000000 in
theorem long (s : ByteArray) (w : World) (hl : ∀ w, Calls Try.prog 84 #[] w fun e w' => e = .returned (.bool true) ∧ Below w.heap.size w w') (h0 : decide (300 < (s.size : Int)) = true) :
    Calls Try.prog 16 #[.string s] w fun e w' => e = .returned (.bool true) ∧ Below w.heap.size w w' := by
  have HL := Lib.hid hl; clear hl
  go_enter Try.func16, Try.ntmps16
  go_wp2_with (go_at_call 84; refine (HL.out _).mono ?_; rintro e w5 ⟨rfl, hb⟩; have B5 := Lib.hid hb; clear hb)
  go_ret
  exact ⟨rfl, B5.out⟩
set_option maxRecDepth 100000 in
set_option maxHeartbeats 2000000 in
theorem short (s : ByteArray) (r0 r1 r2 r3 r4 r5 r6 r7 er sm : Int) (b : Bool) (w : World) (hl : ∀ w, Calls Try.prog 84 #[] w fun e w' => e = .returned (.bool true) ∧ Below w.heap.size w w') (hp : ∀ w, Calls Try.prog 85 #[.string s] w fun e w' => e = .returned (.tuple #[.agg #[.int .u64 r0, .int .u64 r1, .int .u64 r2, .int .u64 r3, .int .i64 r4, .int .i64 r5, .int .i64 r6, .int .i64 r7, .bool b], .int .i64 er]) ∧ Below w.heap.size w w') (hx : ∀ w, Calls Try.prog 86 #[.string s] w fun e w' => e = .returned (.tuple #[.agg #[.int .u64 r0, .int .u64 r1, .int .u64 r2, .int .u64 r3, .int .i64 r4, .int .i64 r5, .int .i64 r6, .int .i64 r7, .bool b], .int .i64 er]) ∧ Below w.heap.size w w') (hs : ∀ w, Calls Try.prog 87 #[.string s] w fun e w' => e = .returned (.int .i64 sm) ∧ Below w.heap.size w w') (hr : ∀ w, Calls Try.prog 88 #[.string s] w fun e w' => e = .returned (.int .i64 sm) ∧ Below w.heap.size w w') (h0 : decide (300 < (s.size : Int)) = false) :
    Calls Try.prog 16 #[.string s] w fun e w' => e = .returned (.bool true) ∧ Below w.heap.size w w' := by
  have HL := Lib.hid hl; have HP := Lib.hid hp; have HX := Lib.hid hx; have HS := Lib.hid hs; have HR := Lib.hid hr; clear hl hp hx hs hr
  go_enter Try.func16, Try.ntmps16
  go_wp2_with (first | (go_at_call 85; refine (HP.out _).mono ?_; rintro e w1 ⟨rfl, hb⟩; have B1 := Lib.hid hb; clear hb) | (go_at_call 86; refine (HX.out _).mono ?_; rintro e w2 ⟨rfl, hb⟩; have KA : Hid (w2.heap[w1.heap.size]? = some (.cells #[.int .u64 r0, .int .u64 r1, .int .u64 r2, .int .u64 r3, .int .i64 r4, .int .i64 r5, .int .i64 r6, .int .i64 r7, .bool b] 112 (0, 0))) := Lib.hid (blk_below (by exact blk_new w1 _) hb); have B2 := Lib.hid hb; clear hb) | (go_at_call 87; refine (HS.out _).mono ?_; rintro e w3 ⟨rfl, hb⟩; have KA3 : Hid (w3.heap[w1.heap.size]? = some (.cells #[.int .u64 r0, .int .u64 r1, .int .u64 r2, .int .u64 r3, .int .i64 r4, .int .i64 r5, .int .i64 r6, .int .i64 r7, .bool b] 112 (0, 0))) := Lib.hid (blk_below (by exact blk_alloc KA.out _) hb); have KB3 : Hid (w3.heap[w2.heap.size]? = some (.cells #[.int .u64 r0, .int .u64 r1, .int .u64 r2, .int .u64 r3, .int .i64 r4, .int .i64 r5, .int .i64 r6, .int .i64 r7, .bool b] 115 (0, 0))) := Lib.hid (blk_below (by exact blk_new w2 _) hb); have B3 := Lib.hid hb; clear hb) | (go_at_call 88; refine (HR.out _).mono ?_; rintro e w4 ⟨rfl, hb⟩; have KA4 : Hid (w4.heap[w1.heap.size]? = some (.cells #[.int .u64 r0, .int .u64 r1, .int .u64 r2, .int .u64 r3, .int .i64 r4, .int .i64 r5, .int .i64 r6, .int .i64 r7, .bool b] 112 (0, 0))) := Lib.hid (blk_below (by exact KA3.out) hb); have d0 : w4.cell? ⟨w1.heap.size, 0, none⟩ = some (.int .u64 r0) := (blk_cell KA4.out 0).trans rfl; have d1 : w4.cell? ⟨w1.heap.size, 1, none⟩ = some (.int .u64 r1) := (blk_cell KA4.out 1).trans rfl; have d2 : w4.cell? ⟨w1.heap.size, 2, none⟩ = some (.int .u64 r2) := (blk_cell KA4.out 2).trans rfl; have d3 : w4.cell? ⟨w1.heap.size, 3, none⟩ = some (.int .u64 r3) := (blk_cell KA4.out 3).trans rfl; have d4 : w4.cell? ⟨w1.heap.size, 4, none⟩ = some (.int .i64 r4) := (blk_cell KA4.out 4).trans rfl; have d5 : w4.cell? ⟨w1.heap.size, 5, none⟩ = some (.int .i64 r5) := (blk_cell KA4.out 5).trans rfl; have d6 : w4.cell? ⟨w1.heap.size, 6, none⟩ = some (.int .i64 r6) := (blk_cell KA4.out 6).trans rfl; have d7 : w4.cell? ⟨w1.heap.size, 7, none⟩ = some (.int .i64 r7) := (blk_cell KA4.out 7).trans rfl; have d8 : w4.cell? ⟨w1.heap.size, 8, none⟩ = some (.bool b) := (blk_cell KA4.out 8).trans rfl; have KB4 : Hid (w4.heap[w2.heap.size]? = some (.cells #[.int .u64 r0, .int .u64 r1, .int .u64 r2, .int .u64 r3, .int .i64 r4, .int .i64 r5, .int .i64 r6, .int .i64 r7, .bool b] 115 (0, 0))) := Lib.hid (blk_below (by exact KB3.out) hb); have f0 : w4.cell? ⟨w2.heap.size, 0, none⟩ = some (.int .u64 r0) := (blk_cell KB4.out 0).trans rfl; have f1 : w4.cell? ⟨w2.heap.size, 1, none⟩ = some (.int .u64 r1) := (blk_cell KB4.out 1).trans rfl; have f2 : w4.cell? ⟨w2.heap.size, 2, none⟩ = some (.int .u64 r2) := (blk_cell KB4.out 2).trans rfl; have f3 : w4.cell? ⟨w2.heap.size, 3, none⟩ = some (.int .u64 r3) := (blk_cell KB4.out 3).trans rfl; have f4 : w4.cell? ⟨w2.heap.size, 4, none⟩ = some (.int .i64 r4) := (blk_cell KB4.out 4).trans rfl; have f5 : w4.cell? ⟨w2.heap.size, 5, none⟩ = some (.int .i64 r5) := (blk_cell KB4.out 5).trans rfl; have f6 : w4.cell? ⟨w2.heap.size, 6, none⟩ = some (.int .i64 r6) := (blk_cell KB4.out 6).trans rfl; have f7 : w4.cell? ⟨w2.heap.size, 7, none⟩ = some (.int .i64 r7) := (blk_cell KB4.out 7).trans rfl; have f8 : w4.cell? ⟨w2.heap.size, 8, none⟩ = some (.bool b) := (blk_cell KB4.out 8).trans rfl; have B4 := Lib.hid hb; clear hb) | (go_at_call 84; refine (HL.out _).mono ?_; rintro e w5 ⟨rfl, hb⟩; have B5 := Lib.hid hb; clear hb))
  go_ret
  have C2 := Lib.hid ((B1.out.alloc B1.out.size (.cells #[.int .u64 r0, .int .u64 r1, .int .u64 r2, .int .u64 r3, .int .i64 r4, .int .i64 r5, .int .i64 r6, .int .i64 r7, .bool b] 112 (0, 0))).trans (B2.out.mono (by have := B1.out.size; simp; omega)))
  have C3 := Lib.hid ((C2.out.alloc C2.out.size (.cells #[.int .u64 r0, .int .u64 r1, .int .u64 r2, .int .u64 r3, .int .i64 r4, .int .i64 r5, .int .i64 r6, .int .i64 r7, .bool b] 115 (0, 0))).trans (B3.out.mono (by have := C2.out.size; simp; omega)))
  have C4 := Lib.hid (C3.out.trans (B4.out.mono C3.out.size))
  exact ⟨rfl, C4.out.trans (B5.out.mono C4.out.size)⟩
theorem lives_v : flashlocklaw11_lives.f 70000100 = some true := Go.Proofs.Ytlnnghbbjbimoaa.Ipv4M.v4_lives _ (by decide)
theorem law_calls (s : ByteArray) (w : World) (hs : s.size ≤ 140737488351232) :
    Calls Try.prog 16 #[.string s] w fun e w' => e = .returned (.bool true) ∧ Below w.heap.size w w' := by
  have hl : ∀ w, Calls Try.prog 84 #[] w fun e w' => e = .returned (.bool true) ∧ Below w.heap.size w w' := fun w => flashlocklaw11_lives.calls 70000100 true w lives_v
  by_cases hz : (300 : Int) < s.size
  · exact long s w hl (decide_eq_true hz)
  · have h2 := refParse_v 3000 (by decide) s (by omega)
    exact short s _ _ _ _ _ _ _ _ _ (Ipv4P.sum s) _ w hl (fun w => parse_calls s w (by omega)) (fun w => flashlockref11_Parse.calls 3000 s _ _ _ _ _ _ _ _ _ _ w h2) (fun w => (ipv4_Sum.calls 70000000 s _ w (sum_str 70000000 s (by omega) (by decide))).mono fun e w' h => ⟨h.1, h.2.below⟩) (fun w => (flashlockref11_Sum.calls 3000 s _ w (rsum_str 3000 s (by omega) (by decide))).mono fun e w' h => ⟨h.1, h.2.below⟩) (decide_eq_false hz)
end Go.Proofs.Ytlnnghbbjbimoaa.Ipv4T
