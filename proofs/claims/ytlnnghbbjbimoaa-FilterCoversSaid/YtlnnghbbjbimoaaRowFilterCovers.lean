/- The row of FilterCovers, out of its contract. Written by wip/tools/row.py. -/
import Derived.Test.YtlnnghbbjbimoaaRows
import Derived.Test.YtlnnghbbjbimoaaFilterCL
import Derived.Test.YtlnnghbbjbimoaaAgg
import Derived.WalkKit
import Derived.ProofKit
import Derived.OpenShut
import Derived.ShutString
import Derived.ChangeOld
import Derived.Below
import Derived.SizedLaws
namespace Go.Proofs.Ytlnnghbbjbimoaa.filterCovers
open Go.ChangeShapes Go.WideShapes Go.ChangeAt Go.RowKit
open Go.ChangeMaps (open_string shut_string)
set_option linter.unusedVariables false
set_option linter.constructorNameAsVariable false
set_option maxRecDepth 20000
theorem own : ownKnob Try.prog.godebug = none := by kernel_rfl
theorem laidOut : laidOutB Try.prog = true := by kernel_rfl
theorem open39 {w : World} {r : Reach} {base : Nat} {v : Value} (h : Value.okWide Try.prog w r base 39 v) : ∃ (a0 : Int) (a1 : Int) (a2 : Int) (a3 : Int) (a4 : Int) (a5 : Int) (a6 : Int) (a7 : Int), v = .agg #[.int .i64 a0, .int .u64 a1, .int .u64 a2, .int .u64 a3, .int .u64 a4, .int .i64 a5, .int .i64 a6, .int .i64 a7] ∧ (Lit.int .i64 a0).wf = true ∧ (Lit.int .u64 a1).wf = true ∧ (Lit.int .u64 a2).wf = true ∧ (Lit.int .u64 a3).wf = true ∧ (Lit.int .u64 a4).wf = true ∧ (Lit.int .i64 a5).wf = true ∧ (Lit.int .i64 a6).wf = true ∧ (Lit.int .i64 a7).wf = true := by
  obtain ⟨cs, rfl, hsz, hc⟩ := Agg.agg_cells (ts := [3, 23, 23, 23, 23, 3, 3, 3]) (by kernel_rfl) (by kernel_rfl) (by kernel_rfl) h
  obtain ⟨u0, e0⟩ := Agg.at_ (i := 0) hsz (by decide)
  obtain ⟨a0, h0, w0⟩ := Agg.cell_int Try.underlying3 (hc 0 _ _ e0 rfl)
  rw [h0] at e0
  obtain ⟨u1, e1⟩ := Agg.at_ (i := 1) hsz (by decide)
  obtain ⟨a1, h1, w1⟩ := Agg.cell_int Try.underlying23 (hc 1 _ _ e1 rfl)
  rw [h1] at e1
  obtain ⟨u2, e2⟩ := Agg.at_ (i := 2) hsz (by decide)
  obtain ⟨a2, h2, w2⟩ := Agg.cell_int Try.underlying23 (hc 2 _ _ e2 rfl)
  rw [h2] at e2
  obtain ⟨u3, e3⟩ := Agg.at_ (i := 3) hsz (by decide)
  obtain ⟨a3, h3, w3⟩ := Agg.cell_int Try.underlying23 (hc 3 _ _ e3 rfl)
  rw [h3] at e3
  obtain ⟨u4, e4⟩ := Agg.at_ (i := 4) hsz (by decide)
  obtain ⟨a4, h4, w4⟩ := Agg.cell_int Try.underlying23 (hc 4 _ _ e4 rfl)
  rw [h4] at e4
  obtain ⟨u5, e5⟩ := Agg.at_ (i := 5) hsz (by decide)
  obtain ⟨a5, h5, w5⟩ := Agg.cell_int Try.underlying3 (hc 5 _ _ e5 rfl)
  rw [h5] at e5
  obtain ⟨u6, e6⟩ := Agg.at_ (i := 6) hsz (by decide)
  obtain ⟨a6, h6, w6⟩ := Agg.cell_int Try.underlying3 (hc 6 _ _ e6 rfl)
  rw [h6] at e6
  obtain ⟨u7, e7⟩ := Agg.at_ (i := 7) hsz (by decide)
  obtain ⟨a7, h7, w7⟩ := Agg.cell_int Try.underlying3 (hc 7 _ _ e7 rfl)
  rw [h7] at e7
  refine ⟨a0, a1, a2, a3, a4, a5, a6, a7, ?_, w0, w1, w2, w3, w4, w5, w6, w7⟩
  refine congrArg Value.agg (Agg.arr_ext (l := [.int .i64 a0, .int .u64 a1, .int .u64 a2, .int .u64 a3, .int .u64 a4, .int .i64 a5, .int .i64 a6, .int .i64 a7]) hsz ?_)
  intro i hi
  have hi' : i < 8 := hi
  obtain rfl | rfl | rfl | rfl | rfl | rfl | rfl | rfl : i = 0 ∨ i = 1 ∨ i = 2 ∨ i = 3 ∨ i = 4 ∨ i = 5 ∨ i = 6 ∨ i = 7 := by omega
  · exact e0
  · exact e1
  · exact e2
  · exact e3
  · exact e4
  · exact e5
  · exact e6
  · exact e7
theorem open54 {w : World} {r : Reach} {base : Nat} {v : Value} (h : Value.okWide Try.prog w r base 54 v) : ∃ (a0 : Int) (a1 : Int) (a2 : Int) (a3 : Int) (a4 : Int) (a5 : Int) (a6 : Int) (a7 : Int) (a8 : Int) (a9 : Int) (a10 : Int) (a11 : Int) (a12 : Int) (a13 : Int) (a14 : Int) (a15 : Int) (a16 : Int) (a17 : Int) (a18 : Int) (a19 : Int) (a20 : Int) (a21 : Int) (a22 : Int) (a23 : Int) (a24 : Int) (a25 : Int) (a26 : Int) (a27 : Int) (a28 : Int) (a29 : Int) (a30 : Int) (a31 : Int) (a32 : Int) (a33 : Int) (a34 : Int) (a35 : Int) (a36 : Int) (a37 : Int) (a38 : Int) (a39 : Int) (a40 : Int) (a41 : Int) (a42 : Int) (a43 : Int) (a44 : Int), v = .agg #[.int .i64 a0, .int .i64 a1, .int .i64 a2, .int .u64 a3, .int .u64 a4, .int .u64 a5, .int .u64 a6, .int .i64 a7, .int .i64 a8, .int .i64 a9, .int .i64 a10, .int .i64 a11, .int .i64 a12, .int .i64 a13, .int .i64 a14, .int .i64 a15, .int .i64 a16, .int .i64 a17, .int .u64 a18, .int .u64 a19, .int .u64 a20, .int .u64 a21, .int .i64 a22, .int .i64 a23, .int .i64 a24, .int .i64 a25, .int .i64 a26, .int .i64 a27, .int .i64 a28, .int .i64 a29, .int .i64 a30, .int .i64 a31, .int .i64 a32, .int .u64 a33, .int .u64 a34, .int .u64 a35, .int .u64 a36, .int .i64 a37, .int .i64 a38, .int .i64 a39, .int .i64 a40, .int .i64 a41, .int .i64 a42, .int .i64 a43, .int .i64 a44] ∧ (Lit.int .i64 a0).wf = true ∧ (Lit.int .i64 a1).wf = true ∧ (Lit.int .i64 a2).wf = true ∧ (Lit.int .u64 a3).wf = true ∧ (Lit.int .u64 a4).wf = true ∧ (Lit.int .u64 a5).wf = true ∧ (Lit.int .u64 a6).wf = true ∧ (Lit.int .i64 a7).wf = true ∧ (Lit.int .i64 a8).wf = true ∧ (Lit.int .i64 a9).wf = true ∧ (Lit.int .i64 a10).wf = true ∧ (Lit.int .i64 a11).wf = true ∧ (Lit.int .i64 a12).wf = true ∧ (Lit.int .i64 a13).wf = true ∧ (Lit.int .i64 a14).wf = true ∧ (Lit.int .i64 a15).wf = true ∧ (Lit.int .i64 a16).wf = true ∧ (Lit.int .i64 a17).wf = true ∧ (Lit.int .u64 a18).wf = true ∧ (Lit.int .u64 a19).wf = true ∧ (Lit.int .u64 a20).wf = true ∧ (Lit.int .u64 a21).wf = true ∧ (Lit.int .i64 a22).wf = true ∧ (Lit.int .i64 a23).wf = true ∧ (Lit.int .i64 a24).wf = true ∧ (Lit.int .i64 a25).wf = true ∧ (Lit.int .i64 a26).wf = true ∧ (Lit.int .i64 a27).wf = true ∧ (Lit.int .i64 a28).wf = true ∧ (Lit.int .i64 a29).wf = true ∧ (Lit.int .i64 a30).wf = true ∧ (Lit.int .i64 a31).wf = true ∧ (Lit.int .i64 a32).wf = true ∧ (Lit.int .u64 a33).wf = true ∧ (Lit.int .u64 a34).wf = true ∧ (Lit.int .u64 a35).wf = true ∧ (Lit.int .u64 a36).wf = true ∧ (Lit.int .i64 a37).wf = true ∧ (Lit.int .i64 a38).wf = true ∧ (Lit.int .i64 a39).wf = true ∧ (Lit.int .i64 a40).wf = true ∧ (Lit.int .i64 a41).wf = true ∧ (Lit.int .i64 a42).wf = true ∧ (Lit.int .i64 a43).wf = true ∧ (Lit.int .i64 a44).wf = true := by
  obtain ⟨cs, rfl, hsz, hc⟩ := Agg.agg_cells (ts := [3, 3, 3, 23, 23, 23, 23, 3, 3, 3, 3, 3, 3, 3, 3, 3, 3, 3, 23, 23, 23, 23, 3, 3, 3, 3, 3, 3, 3, 3, 3, 3, 3, 23, 23, 23, 23, 3, 3, 3, 3, 3, 3, 3, 3]) (by kernel_rfl) (by kernel_rfl) (by kernel_rfl) h
  obtain ⟨u0, e0⟩ := Agg.at_ (i := 0) hsz (by decide)
  obtain ⟨a0, h0, w0⟩ := Agg.cell_int Try.underlying3 (hc 0 _ _ e0 rfl)
  rw [h0] at e0
  obtain ⟨u1, e1⟩ := Agg.at_ (i := 1) hsz (by decide)
  obtain ⟨a1, h1, w1⟩ := Agg.cell_int Try.underlying3 (hc 1 _ _ e1 rfl)
  rw [h1] at e1
  obtain ⟨u2, e2⟩ := Agg.at_ (i := 2) hsz (by decide)
  obtain ⟨a2, h2, w2⟩ := Agg.cell_int Try.underlying3 (hc 2 _ _ e2 rfl)
  rw [h2] at e2
  obtain ⟨u3, e3⟩ := Agg.at_ (i := 3) hsz (by decide)
  obtain ⟨a3, h3, w3⟩ := Agg.cell_int Try.underlying23 (hc 3 _ _ e3 rfl)
  rw [h3] at e3
  obtain ⟨u4, e4⟩ := Agg.at_ (i := 4) hsz (by decide)
  obtain ⟨a4, h4, w4⟩ := Agg.cell_int Try.underlying23 (hc 4 _ _ e4 rfl)
  rw [h4] at e4
  obtain ⟨u5, e5⟩ := Agg.at_ (i := 5) hsz (by decide)
  obtain ⟨a5, h5, w5⟩ := Agg.cell_int Try.underlying23 (hc 5 _ _ e5 rfl)
  rw [h5] at e5
  obtain ⟨u6, e6⟩ := Agg.at_ (i := 6) hsz (by decide)
  obtain ⟨a6, h6, w6⟩ := Agg.cell_int Try.underlying23 (hc 6 _ _ e6 rfl)
  rw [h6] at e6
  obtain ⟨u7, e7⟩ := Agg.at_ (i := 7) hsz (by decide)
  obtain ⟨a7, h7, w7⟩ := Agg.cell_int Try.underlying3 (hc 7 _ _ e7 rfl)
  rw [h7] at e7
  obtain ⟨u8, e8⟩ := Agg.at_ (i := 8) hsz (by decide)
  obtain ⟨a8, h8, w8⟩ := Agg.cell_int Try.underlying3 (hc 8 _ _ e8 rfl)
  rw [h8] at e8
  obtain ⟨u9, e9⟩ := Agg.at_ (i := 9) hsz (by decide)
  obtain ⟨a9, h9, w9⟩ := Agg.cell_int Try.underlying3 (hc 9 _ _ e9 rfl)
  rw [h9] at e9
  obtain ⟨u10, e10⟩ := Agg.at_ (i := 10) hsz (by decide)
  obtain ⟨a10, h10, w10⟩ := Agg.cell_int Try.underlying3 (hc 10 _ _ e10 rfl)
  rw [h10] at e10
  obtain ⟨u11, e11⟩ := Agg.at_ (i := 11) hsz (by decide)
  obtain ⟨a11, h11, w11⟩ := Agg.cell_int Try.underlying3 (hc 11 _ _ e11 rfl)
  rw [h11] at e11
  obtain ⟨u12, e12⟩ := Agg.at_ (i := 12) hsz (by decide)
  obtain ⟨a12, h12, w12⟩ := Agg.cell_int Try.underlying3 (hc 12 _ _ e12 rfl)
  rw [h12] at e12
  obtain ⟨u13, e13⟩ := Agg.at_ (i := 13) hsz (by decide)
  obtain ⟨a13, h13, w13⟩ := Agg.cell_int Try.underlying3 (hc 13 _ _ e13 rfl)
  rw [h13] at e13
  obtain ⟨u14, e14⟩ := Agg.at_ (i := 14) hsz (by decide)
  obtain ⟨a14, h14, w14⟩ := Agg.cell_int Try.underlying3 (hc 14 _ _ e14 rfl)
  rw [h14] at e14
  obtain ⟨u15, e15⟩ := Agg.at_ (i := 15) hsz (by decide)
  obtain ⟨a15, h15, w15⟩ := Agg.cell_int Try.underlying3 (hc 15 _ _ e15 rfl)
  rw [h15] at e15
  obtain ⟨u16, e16⟩ := Agg.at_ (i := 16) hsz (by decide)
  obtain ⟨a16, h16, w16⟩ := Agg.cell_int Try.underlying3 (hc 16 _ _ e16 rfl)
  rw [h16] at e16
  obtain ⟨u17, e17⟩ := Agg.at_ (i := 17) hsz (by decide)
  obtain ⟨a17, h17, w17⟩ := Agg.cell_int Try.underlying3 (hc 17 _ _ e17 rfl)
  rw [h17] at e17
  obtain ⟨u18, e18⟩ := Agg.at_ (i := 18) hsz (by decide)
  obtain ⟨a18, h18, w18⟩ := Agg.cell_int Try.underlying23 (hc 18 _ _ e18 rfl)
  rw [h18] at e18
  obtain ⟨u19, e19⟩ := Agg.at_ (i := 19) hsz (by decide)
  obtain ⟨a19, h19, w19⟩ := Agg.cell_int Try.underlying23 (hc 19 _ _ e19 rfl)
  rw [h19] at e19
  obtain ⟨u20, e20⟩ := Agg.at_ (i := 20) hsz (by decide)
  obtain ⟨a20, h20, w20⟩ := Agg.cell_int Try.underlying23 (hc 20 _ _ e20 rfl)
  rw [h20] at e20
  obtain ⟨u21, e21⟩ := Agg.at_ (i := 21) hsz (by decide)
  obtain ⟨a21, h21, w21⟩ := Agg.cell_int Try.underlying23 (hc 21 _ _ e21 rfl)
  rw [h21] at e21
  obtain ⟨u22, e22⟩ := Agg.at_ (i := 22) hsz (by decide)
  obtain ⟨a22, h22, w22⟩ := Agg.cell_int Try.underlying3 (hc 22 _ _ e22 rfl)
  rw [h22] at e22
  obtain ⟨u23, e23⟩ := Agg.at_ (i := 23) hsz (by decide)
  obtain ⟨a23, h23, w23⟩ := Agg.cell_int Try.underlying3 (hc 23 _ _ e23 rfl)
  rw [h23] at e23
  obtain ⟨u24, e24⟩ := Agg.at_ (i := 24) hsz (by decide)
  obtain ⟨a24, h24, w24⟩ := Agg.cell_int Try.underlying3 (hc 24 _ _ e24 rfl)
  rw [h24] at e24
  obtain ⟨u25, e25⟩ := Agg.at_ (i := 25) hsz (by decide)
  obtain ⟨a25, h25, w25⟩ := Agg.cell_int Try.underlying3 (hc 25 _ _ e25 rfl)
  rw [h25] at e25
  obtain ⟨u26, e26⟩ := Agg.at_ (i := 26) hsz (by decide)
  obtain ⟨a26, h26, w26⟩ := Agg.cell_int Try.underlying3 (hc 26 _ _ e26 rfl)
  rw [h26] at e26
  obtain ⟨u27, e27⟩ := Agg.at_ (i := 27) hsz (by decide)
  obtain ⟨a27, h27, w27⟩ := Agg.cell_int Try.underlying3 (hc 27 _ _ e27 rfl)
  rw [h27] at e27
  obtain ⟨u28, e28⟩ := Agg.at_ (i := 28) hsz (by decide)
  obtain ⟨a28, h28, w28⟩ := Agg.cell_int Try.underlying3 (hc 28 _ _ e28 rfl)
  rw [h28] at e28
  obtain ⟨u29, e29⟩ := Agg.at_ (i := 29) hsz (by decide)
  obtain ⟨a29, h29, w29⟩ := Agg.cell_int Try.underlying3 (hc 29 _ _ e29 rfl)
  rw [h29] at e29
  obtain ⟨u30, e30⟩ := Agg.at_ (i := 30) hsz (by decide)
  obtain ⟨a30, h30, w30⟩ := Agg.cell_int Try.underlying3 (hc 30 _ _ e30 rfl)
  rw [h30] at e30
  obtain ⟨u31, e31⟩ := Agg.at_ (i := 31) hsz (by decide)
  obtain ⟨a31, h31, w31⟩ := Agg.cell_int Try.underlying3 (hc 31 _ _ e31 rfl)
  rw [h31] at e31
  obtain ⟨u32, e32⟩ := Agg.at_ (i := 32) hsz (by decide)
  obtain ⟨a32, h32, w32⟩ := Agg.cell_int Try.underlying3 (hc 32 _ _ e32 rfl)
  rw [h32] at e32
  obtain ⟨u33, e33⟩ := Agg.at_ (i := 33) hsz (by decide)
  obtain ⟨a33, h33, w33⟩ := Agg.cell_int Try.underlying23 (hc 33 _ _ e33 rfl)
  rw [h33] at e33
  obtain ⟨u34, e34⟩ := Agg.at_ (i := 34) hsz (by decide)
  obtain ⟨a34, h34, w34⟩ := Agg.cell_int Try.underlying23 (hc 34 _ _ e34 rfl)
  rw [h34] at e34
  obtain ⟨u35, e35⟩ := Agg.at_ (i := 35) hsz (by decide)
  obtain ⟨a35, h35, w35⟩ := Agg.cell_int Try.underlying23 (hc 35 _ _ e35 rfl)
  rw [h35] at e35
  obtain ⟨u36, e36⟩ := Agg.at_ (i := 36) hsz (by decide)
  obtain ⟨a36, h36, w36⟩ := Agg.cell_int Try.underlying23 (hc 36 _ _ e36 rfl)
  rw [h36] at e36
  obtain ⟨u37, e37⟩ := Agg.at_ (i := 37) hsz (by decide)
  obtain ⟨a37, h37, w37⟩ := Agg.cell_int Try.underlying3 (hc 37 _ _ e37 rfl)
  rw [h37] at e37
  obtain ⟨u38, e38⟩ := Agg.at_ (i := 38) hsz (by decide)
  obtain ⟨a38, h38, w38⟩ := Agg.cell_int Try.underlying3 (hc 38 _ _ e38 rfl)
  rw [h38] at e38
  obtain ⟨u39, e39⟩ := Agg.at_ (i := 39) hsz (by decide)
  obtain ⟨a39, h39, w39⟩ := Agg.cell_int Try.underlying3 (hc 39 _ _ e39 rfl)
  rw [h39] at e39
  obtain ⟨u40, e40⟩ := Agg.at_ (i := 40) hsz (by decide)
  obtain ⟨a40, h40, w40⟩ := Agg.cell_int Try.underlying3 (hc 40 _ _ e40 rfl)
  rw [h40] at e40
  obtain ⟨u41, e41⟩ := Agg.at_ (i := 41) hsz (by decide)
  obtain ⟨a41, h41, w41⟩ := Agg.cell_int Try.underlying3 (hc 41 _ _ e41 rfl)
  rw [h41] at e41
  obtain ⟨u42, e42⟩ := Agg.at_ (i := 42) hsz (by decide)
  obtain ⟨a42, h42, w42⟩ := Agg.cell_int Try.underlying3 (hc 42 _ _ e42 rfl)
  rw [h42] at e42
  obtain ⟨u43, e43⟩ := Agg.at_ (i := 43) hsz (by decide)
  obtain ⟨a43, h43, w43⟩ := Agg.cell_int Try.underlying3 (hc 43 _ _ e43 rfl)
  rw [h43] at e43
  obtain ⟨u44, e44⟩ := Agg.at_ (i := 44) hsz (by decide)
  obtain ⟨a44, h44, w44⟩ := Agg.cell_int Try.underlying3 (hc 44 _ _ e44 rfl)
  rw [h44] at e44
  refine ⟨a0, a1, a2, a3, a4, a5, a6, a7, a8, a9, a10, a11, a12, a13, a14, a15, a16, a17, a18, a19, a20, a21, a22, a23, a24, a25, a26, a27, a28, a29, a30, a31, a32, a33, a34, a35, a36, a37, a38, a39, a40, a41, a42, a43, a44, ?_, w0, w1, w2, w3, w4, w5, w6, w7, w8, w9, w10, w11, w12, w13, w14, w15, w16, w17, w18, w19, w20, w21, w22, w23, w24, w25, w26, w27, w28, w29, w30, w31, w32, w33, w34, w35, w36, w37, w38, w39, w40, w41, w42, w43, w44⟩
  refine congrArg Value.agg (Agg.arr_ext (l := [.int .i64 a0, .int .i64 a1, .int .i64 a2, .int .u64 a3, .int .u64 a4, .int .u64 a5, .int .u64 a6, .int .i64 a7, .int .i64 a8, .int .i64 a9, .int .i64 a10, .int .i64 a11, .int .i64 a12, .int .i64 a13, .int .i64 a14, .int .i64 a15, .int .i64 a16, .int .i64 a17, .int .u64 a18, .int .u64 a19, .int .u64 a20, .int .u64 a21, .int .i64 a22, .int .i64 a23, .int .i64 a24, .int .i64 a25, .int .i64 a26, .int .i64 a27, .int .i64 a28, .int .i64 a29, .int .i64 a30, .int .i64 a31, .int .i64 a32, .int .u64 a33, .int .u64 a34, .int .u64 a35, .int .u64 a36, .int .i64 a37, .int .i64 a38, .int .i64 a39, .int .i64 a40, .int .i64 a41, .int .i64 a42, .int .i64 a43, .int .i64 a44]) hsz ?_)
  intro i hi
  have hi' : i < 45 := hi
  obtain rfl | rfl | rfl | rfl | rfl | rfl | rfl | rfl | rfl | rfl | rfl | rfl | rfl | rfl | rfl | rfl | rfl | rfl | rfl | rfl | rfl | rfl | rfl | rfl | rfl | rfl | rfl | rfl | rfl | rfl | rfl | rfl | rfl | rfl | rfl | rfl | rfl | rfl | rfl | rfl | rfl | rfl | rfl | rfl | rfl : i = 0 ∨ i = 1 ∨ i = 2 ∨ i = 3 ∨ i = 4 ∨ i = 5 ∨ i = 6 ∨ i = 7 ∨ i = 8 ∨ i = 9 ∨ i = 10 ∨ i = 11 ∨ i = 12 ∨ i = 13 ∨ i = 14 ∨ i = 15 ∨ i = 16 ∨ i = 17 ∨ i = 18 ∨ i = 19 ∨ i = 20 ∨ i = 21 ∨ i = 22 ∨ i = 23 ∨ i = 24 ∨ i = 25 ∨ i = 26 ∨ i = 27 ∨ i = 28 ∨ i = 29 ∨ i = 30 ∨ i = 31 ∨ i = 32 ∨ i = 33 ∨ i = 34 ∨ i = 35 ∨ i = 36 ∨ i = 37 ∨ i = 38 ∨ i = 39 ∨ i = 40 ∨ i = 41 ∨ i = 42 ∨ i = 43 ∨ i = 44 := by omega
  · exact e0
  · exact e1
  · exact e2
  · exact e3
  · exact e4
  · exact e5
  · exact e6
  · exact e7
  · exact e8
  · exact e9
  · exact e10
  · exact e11
  · exact e12
  · exact e13
  · exact e14
  · exact e15
  · exact e16
  · exact e17
  · exact e18
  · exact e19
  · exact e20
  · exact e21
  · exact e22
  · exact e23
  · exact e24
  · exact e25
  · exact e26
  · exact e27
  · exact e28
  · exact e29
  · exact e30
  · exact e31
  · exact e32
  · exact e33
  · exact e34
  · exact e35
  · exact e36
  · exact e37
  · exact e38
  · exact e39
  · exact e40
  · exact e41
  · exact e42
  · exact e43
  · exact e44
set_option maxRecDepth 100000 in
theorem lifted (os : Os) (started : os.Started) (H : Type) (enc : TypeId × Value → H) :
    ReturnsInHanded {} Try.checked os 6 .any (Rows.filterCoversSpec.pre6 enc Try.prog Try.f6 Rows.filterCoversRow.domain false) (Rows.filterCoversSpec.post enc Try.prog Try.f6 false true false false) := by
  refine returnsInHanded_of_change_sized (C := Try.checked) own started (by kernel_rfl) Try.func6
    (ChangeSpec.witness6 (enc := enc) (C := Try.checked) false ⟨#[], #[.agg #[.int .i64 0, .int .i64 0, .int .i64 0, .int .u64 0, .int .u64 0, .int .u64 0, .int .u64 0, .int .i64 0, .int .i64 0, .int .i64 0, .int .i64 0, .int .i64 0, .int .i64 0, .int .i64 0, .int .i64 0, .int .i64 0, .int .i64 0, .int .i64 0, .int .u64 0, .int .u64 0, .int .u64 0, .int .u64 0, .int .i64 0, .int .i64 0, .int .i64 0, .int .i64 0, .int .i64 0, .int .i64 0, .int .i64 0, .int .i64 0, .int .i64 0, .int .i64 0, .int .i64 0, .int .u64 0, .int .u64 0, .int .u64 0, .int .u64 0, .int .i64 0, .int .i64 0, .int .i64 0, .int .i64 0, .int .i64 0, .int .i64 0, .int .i64 0, .int .i64 0], .agg #[.int .i64 0, .int .u64 0, .int .u64 0, .int .u64 0, .int .u64 0, .int .i64 0, .int .i64 0, .int .i64 0]], []⟩ 8 (by kernel_rfl) (by kernel_rfl) (by kernel_rfl) (by kernel_rfl)) ?_
  intro W base args ds gs before hval0 hW hcnd hsz0 _
  have hsz : (DataW.weightsEach Try.prog (Try.f6.params.toList ++ Rows.filterCoversSpec.plain.varTypes Try.prog) (ds ++ gs)).all (· ≤ reachBytes) = true := hsz0
  have hval : ∀ (j : Nat) t v, Try.f6.params[j]? = some t → args[j]? = some v → Value.okWide Try.prog W .any base t v := hval0
  have hW' := hW
  obtain ⟨p, q, hA0, hV, rfl, hfz, hnd⟩ := hW
  have hA : DataW.TrodAll enc Try.prog W 0 (fun _ => true) true Try.f6.params.toList args.toList ds p := hA0
  rw [Try.params6] at hA hval hsz
  obtain ⟨v0, vs0, d0, ds0, p0, q0, hargs, rfl, rfl, h0, r0⟩ := trodAll_cons hA
  obtain ⟨v1, vs1, d1, ds1, p1, q1, rfl, rfl, rfl, h1, r1⟩ := trodAll_cons r0
  obtain ⟨rfl, rfl, rfl⟩ := trodAll_nil r1
  obtain rfl : args = #[v0, v1] := by cases args; simp_all
  obtain ⟨rfl, rfl⟩ := trodVars_none hV
  have k0 := h0
  have lt0 : ∀ x ∈ p0, x.block < W.heap.size := by obtain ⟨m, hm⟩ := k0; exact DataW.trod_lt m _ _ _ hm
  obtain ⟨a0_0, a0_1, a0_2, a0_3, a0_4, a0_5, a0_6, a0_7, a0_8, a0_9, a0_10, a0_11, a0_12, a0_13, a0_14, a0_15, a0_16, a0_17, a0_18, a0_19, a0_20, a0_21, a0_22, a0_23, a0_24, a0_25, a0_26, a0_27, a0_28, a0_29, a0_30, a0_31, a0_32, a0_33, a0_34, a0_35, a0_36, a0_37, a0_38, a0_39, a0_40, a0_41, a0_42, a0_43, a0_44, rfl, w0_0, w0_1, w0_2, w0_3, w0_4, w0_5, w0_6, w0_7, w0_8, w0_9, w0_10, w0_11, w0_12, w0_13, w0_14, w0_15, w0_16, w0_17, w0_18, w0_19, w0_20, w0_21, w0_22, w0_23, w0_24, w0_25, w0_26, w0_27, w0_28, w0_29, w0_30, w0_31, w0_32, w0_33, w0_34, w0_35, w0_36, w0_37, w0_38, w0_39, w0_40, w0_41, w0_42, w0_43, w0_44⟩ := open54 (hval 0 54 v0 rfl rfl)
  have k1 := h1
  have lt1 : ∀ x ∈ p1, x.block < W.heap.size := by obtain ⟨m, hm⟩ := k1; exact DataW.trod_lt m _ _ _ hm
  obtain ⟨a1_0, a1_1, a1_2, a1_3, a1_4, a1_5, a1_6, a1_7, rfl, w1_0, w1_1, w1_2, w1_3, w1_4, w1_5, w1_6, w1_7⟩ := open39 (hval 1 39 v1 rfl rfl)
  clear hA0 hval0 hsz0 hsz
  refine (Go.Proofs.Ytlnnghbbjbimoaa.FilterCL.law_calls a0_0 a0_1 a0_2 a0_3 a0_4 a0_5 a0_6 a0_7 a0_8 a0_9 a0_10 a0_11 a0_12 a0_13 a0_14 a0_15 a0_16 a0_17 a0_18 a0_19 a0_20 a0_21 a0_22 a0_23 a0_24 a0_25 a0_26 a0_27 a0_28 a0_29 a0_30 a0_31 a0_32 a0_33 a0_34 a0_35 a0_36 a0_37 a0_38 a0_39 a0_40 a0_41 a0_42 a0_43 a0_44 a1_0 a1_1 a1_2 a1_3 a1_4 a1_5 a1_6 a1_7 W w0_0 w0_1 w0_2 w0_3 w0_4 w0_5 w0_6 w0_7 w0_8 w0_9 w0_10 w0_11 w0_12 w0_13 w0_14 w0_15 w0_16 w0_17 w0_18 w0_19 w0_20 w0_21 w0_22 w0_23 w0_24 w0_25 w0_26 w0_27 w0_28 w0_29 w0_30 w0_31 w0_32 w0_33 w0_34 w0_35 w0_36 w0_37 w0_38 w0_39 w0_40 w0_41 w0_42 w0_43 w0_44 w1_0 w1_1 w1_2 w1_3 w1_4 w1_5 w1_6 w1_7).mono fun e W' ⟨he, bel⟩ => ?_
  subst he
  exact ⟨_, rfl, _, _, _, [], _, [], hW', trodAll_mk1 (shut_bool Try.underlying4 _), (trodAll_cons_mk (Below.trod laidOut (by kernel_rfl) (of_decide_eq_true (by kernel_rfl)) k0 bel lt0) (trodAll_cons_mk (Below.trod laidOut (by kernel_rfl) (of_decide_eq_true (by kernel_rfl)) k1 bel lt1) trodAll_mk0)), rfl, bel.frame _, fun h => by cases h⟩
theorem over : Rows.filterCoversRow.holds Try.pinned (OpenSpec.ofChange Rows.filterCoversSpec) :=
  OpenClaim.holds_of_wide 6 Try.f6 rfl rfl rfl rfl rfl rfl rfl ⟨rfl, rfl, rfl, rfl, rfl⟩ rfl rfl rfl rfl rfl (by kernel_rfl) Try.func6 (by kernel_rfl)
    (of_decide_eq_true (by kernel_rfl)) (by unfold Func.isWrapper; first | (rw [if_pos (by decide +kernel)]; kernel_rfl) | (rw [if_neg (by decide +kernel)]; exact ⟨rfl, rfl⟩))
    (fun os started H enc _ => lifted os started H enc)
theorem proved : Rows.FilterCoversSaid := over
#print axioms proved
end Go.Proofs.Ytlnnghbbjbimoaa.filterCovers
namespace Go.Proofs.Ytlnnghbbjbimoaa
/-- The row, under a short name, for the claim. -/
theorem filterCovers_holds : Rows.FilterCoversSaid := filterCovers.proved
end Go.Proofs.Ytlnnghbbjbimoaa
