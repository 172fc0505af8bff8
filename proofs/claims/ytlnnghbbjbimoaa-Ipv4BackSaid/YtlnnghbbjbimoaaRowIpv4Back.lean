/- The row of Ipv4Back, out of its contract. Written by wip/tools/row.py. -/
import Derived.Test.YtlnnghbbjbimoaaRows
import Derived.Test.YtlnnghbbjbimoaaIpv4BL
import Derived.Test.YtlnnghbbjbimoaaAgg
import Derived.WalkKit
import Derived.ProofKit
import Derived.OpenShut
import Derived.ShutString
import Derived.ChangeOld
import Derived.Below
import Derived.SizedLaws
namespace Go.Proofs.Ytlnnghbbjbimoaa.ipv4Back
open Go.ChangeShapes Go.WideShapes Go.ChangeAt Go.RowKit
open Go.ChangeMaps (open_string shut_string)
set_option linter.unusedVariables false
set_option linter.constructorNameAsVariable false
set_option maxRecDepth 20000
theorem own : ownKnob Try.prog.godebug = none := by kernel_rfl
theorem laidOut : laidOutB Try.prog = true := by kernel_rfl
theorem open109 {w : World} {r : Reach} {base : Nat} {v : Value} (h : Value.okWide Try.prog w r base 109 v) : ∃ (a0 : Int) (a1 : Int), v = .agg #[.int .u8 a0, .int .u8 a1] ∧ (Lit.int .u8 a0).wf = true ∧ (Lit.int .u8 a1).wf = true := by
  obtain ⟨cs, rfl, hsz, hc⟩ := Agg.agg_cells (ts := [5, 5]) (by kernel_rfl) (by kernel_rfl) (by kernel_rfl) h
  obtain ⟨u0, e0⟩ := Agg.at_ (i := 0) hsz (by decide)
  obtain ⟨a0, h0, w0⟩ := Agg.cell_int Try.underlying5 (hc 0 _ _ e0 rfl)
  rw [h0] at e0
  obtain ⟨u1, e1⟩ := Agg.at_ (i := 1) hsz (by decide)
  obtain ⟨a1, h1, w1⟩ := Agg.cell_int Try.underlying5 (hc 1 _ _ e1 rfl)
  rw [h1] at e1
  refine ⟨a0, a1, ?_, w0, w1⟩
  refine congrArg Value.agg (Agg.arr_ext (l := [.int .u8 a0, .int .u8 a1]) hsz ?_)
  intro i hi
  have hi' : i < 2 := hi
  obtain rfl | rfl : i = 0 ∨ i = 1 := by omega
  · exact e0
  · exact e1
theorem open112 {w : World} {r : Reach} {base : Nat} {v : Value} (h : Value.okWide Try.prog w r base 112 v) : ∃ (a0 : Int) (a1 : Int) (a2 : Int) (a3 : Int) (a4 : Int) (a5 : Int) (a6 : Int) (a7 : Int) (a8 : Bool), v = .agg #[.int .u64 a0, .int .u64 a1, .int .u64 a2, .int .u64 a3, .int .i64 a4, .int .i64 a5, .int .i64 a6, .int .i64 a7, .bool a8] ∧ (Lit.int .u64 a0).wf = true ∧ (Lit.int .u64 a1).wf = true ∧ (Lit.int .u64 a2).wf = true ∧ (Lit.int .u64 a3).wf = true ∧ (Lit.int .i64 a4).wf = true ∧ (Lit.int .i64 a5).wf = true ∧ (Lit.int .i64 a6).wf = true ∧ (Lit.int .i64 a7).wf = true := by
  obtain ⟨cs, rfl, hsz, hc⟩ := Agg.agg_cells (ts := [23, 23, 23, 23, 3, 3, 3, 3, 4]) (by kernel_rfl) (by kernel_rfl) (by kernel_rfl) h
  obtain ⟨u0, e0⟩ := Agg.at_ (i := 0) hsz (by decide)
  obtain ⟨a0, h0, w0⟩ := Agg.cell_int Try.underlying23 (hc 0 _ _ e0 rfl)
  rw [h0] at e0
  obtain ⟨u1, e1⟩ := Agg.at_ (i := 1) hsz (by decide)
  obtain ⟨a1, h1, w1⟩ := Agg.cell_int Try.underlying23 (hc 1 _ _ e1 rfl)
  rw [h1] at e1
  obtain ⟨u2, e2⟩ := Agg.at_ (i := 2) hsz (by decide)
  obtain ⟨a2, h2, w2⟩ := Agg.cell_int Try.underlying23 (hc 2 _ _ e2 rfl)
  rw [h2] at e2
  obtain ⟨u3, e3⟩ := Agg.at_ (i := 3) hsz (by decide)
  obtain ⟨a3, h3, w3⟩ := Agg.cell_int Try.underlying23 (hc 3 _ _ e3 rfl)
  rw [h3] at e3
  obtain ⟨u4, e4⟩ := Agg.at_ (i := 4) hsz (by decide)
  obtain ⟨a4, h4, w4⟩ := Agg.cell_int Try.underlying3 (hc 4 _ _ e4 rfl)
  rw [h4] at e4
  obtain ⟨u5, e5⟩ := Agg.at_ (i := 5) hsz (by decide)
  obtain ⟨a5, h5, w5⟩ := Agg.cell_int Try.underlying3 (hc 5 _ _ e5 rfl)
  rw [h5] at e5
  obtain ⟨u6, e6⟩ := Agg.at_ (i := 6) hsz (by decide)
  obtain ⟨a6, h6, w6⟩ := Agg.cell_int Try.underlying3 (hc 6 _ _ e6 rfl)
  rw [h6] at e6
  obtain ⟨u7, e7⟩ := Agg.at_ (i := 7) hsz (by decide)
  obtain ⟨a7, h7, w7⟩ := Agg.cell_int Try.underlying3 (hc 7 _ _ e7 rfl)
  rw [h7] at e7
  obtain ⟨u8, e8⟩ := Agg.at_ (i := 8) hsz (by decide)
  obtain ⟨a8, h8⟩ := Agg.cell_bool Try.underlying4 (hc 8 _ _ e8 rfl)
  rw [h8] at e8
  refine ⟨a0, a1, a2, a3, a4, a5, a6, a7, a8, ?_, w0, w1, w2, w3, w4, w5, w6, w7⟩
  refine congrArg Value.agg (Agg.arr_ext (l := [.int .u64 a0, .int .u64 a1, .int .u64 a2, .int .u64 a3, .int .i64 a4, .int .i64 a5, .int .i64 a6, .int .i64 a7, .bool a8]) hsz ?_)
  intro i hi
  have hi' : i < 9 := hi
  obtain rfl | rfl | rfl | rfl | rfl | rfl | rfl | rfl | rfl : i = 0 ∨ i = 1 ∨ i = 2 ∨ i = 3 ∨ i = 4 ∨ i = 5 ∨ i = 6 ∨ i = 7 ∨ i = 8 := by omega
  · exact e0
  · exact e1
  · exact e2
  · exact e3
  · exact e4
  · exact e5
  · exact e6
  · exact e7
  · exact e8
set_option maxRecDepth 100000 in
theorem lifted (os : Os) (started : os.Started) (H : Type) (enc : TypeId × Value → H) :
    ReturnsInHanded {} Try.checked os 17 .any (Rows.ipv4BackSpec.pre6 enc Try.prog Try.f17 Rows.ipv4BackRow.domain false) (Rows.ipv4BackSpec.post enc Try.prog Try.f17 false true false false) := by
  refine returnsInHanded_of_change_sized (C := Try.checked) own started (by kernel_rfl) Try.func17
    (ChangeSpec.witness6 (enc := enc) (C := Try.checked) false ⟨#[], #[.agg #[.int .u64 0, .int .u64 0, .int .u64 0, .int .u64 0, .int .i64 0, .int .i64 0, .int .i64 0, .int .i64 0, .bool false], .string ByteArray.empty, .agg #[.int .u8 0, .int .u8 0]], []⟩ 8 (by kernel_rfl) (by kernel_rfl) (by kernel_rfl) (by kernel_rfl)) ?_
  intro W base args ds gs before hval0 hW hcnd hsz0 _
  have hsz : (DataW.weightsEach Try.prog (Try.f17.params.toList ++ Rows.ipv4BackSpec.plain.varTypes Try.prog) (ds ++ gs)).all (· ≤ reachBytes) = true := hsz0
  have hval : ∀ (j : Nat) t v, Try.f17.params[j]? = some t → args[j]? = some v → Value.okWide Try.prog W .any base t v := hval0
  have hW' := hW
  obtain ⟨p, q, hA0, hV, rfl, hfz, hnd⟩ := hW
  have hA : DataW.TrodAll enc Try.prog W 0 (fun _ => true) true Try.f17.params.toList args.toList ds p := hA0
  rw [Try.params17] at hA hval hsz
  obtain ⟨v0, vs0, d0, ds0, p0, q0, hargs, rfl, rfl, h0, r0⟩ := trodAll_cons hA
  obtain ⟨v1, vs1, d1, ds1, p1, q1, rfl, rfl, rfl, h1, r1⟩ := trodAll_cons r0
  obtain ⟨v2, vs2, d2, ds2, p2, q2, rfl, rfl, rfl, h2, r2⟩ := trodAll_cons r1
  obtain ⟨rfl, rfl, rfl⟩ := trodAll_nil r2
  obtain rfl : args = #[v0, v1, v2] := by cases args; simp_all
  obtain ⟨rfl, rfl⟩ := trodVars_none hV
  have k0 := h0
  have lt0 : ∀ x ∈ p0, x.block < W.heap.size := by obtain ⟨m, hm⟩ := k0; exact DataW.trod_lt m _ _ _ hm
  obtain ⟨a0_0, a0_1, a0_2, a0_3, a0_4, a0_5, a0_6, a0_7, a0_8, rfl, w0_0, w0_1, w0_2, w0_3, w0_4, w0_5, w0_6, w0_7⟩ := open112 (hval 0 112 v0 rfl rfl)
  obtain ⟨a1, rfl, rfl, rfl, y1⟩ := open_string Try.underlying9 (hval 1 9 v1 rfl rfl) h1
  have w1 : a1.size ≤ 140737488351232 := by
    have z := sized_string hsz (j := 1) (t := 9) rfl rfl
    rw [Array.length_toList] at z
    exact z
  have k2 := h2
  have lt2 : ∀ x ∈ p2, x.block < W.heap.size := by obtain ⟨m, hm⟩ := k2; exact DataW.trod_lt m _ _ _ hm
  obtain ⟨a2_0, a2_1, rfl, w2_0, w2_1⟩ := open109 (hval 2 109 v2 rfl rfl)
  clear hA0 hval0 hsz0 hsz
  refine (Ipv4BL.law_calls a0_0 a0_1 a0_2 a0_3 a0_4 a0_5 a0_6 a0_7 a0_8 a1 a2_0 a2_1 W w0_0 w0_1 w0_2 w0_3 w0_4 w0_5 w0_6 w0_7 w1 w2_0 w2_1).mono fun e W' ⟨he, bel⟩ => ?_
  subst he
  exact ⟨_, rfl, _, _, _, [], _, [], hW', trodAll_mk1 (shut_bool Try.underlying4 _), (trodAll_cons_mk (Below.trod laidOut (by kernel_rfl) (of_decide_eq_true (by kernel_rfl)) k0 bel lt0) (trodAll_cons_mk (shut_string Try.underlying9 y1) (trodAll_cons_mk (Below.trod laidOut (by kernel_rfl) (of_decide_eq_true (by kernel_rfl)) k2 bel lt2) trodAll_mk0))), rfl, bel.frame _, fun h => by cases h⟩
theorem over : Rows.ipv4BackRow.holds Try.pinned (OpenSpec.ofChange Rows.ipv4BackSpec) :=
  OpenClaim.holds_of_wide 17 Try.f17 rfl rfl rfl rfl rfl rfl rfl ⟨rfl, rfl, rfl, rfl, rfl⟩ rfl rfl rfl rfl rfl (by kernel_rfl) Try.func17 (by kernel_rfl)
    (of_decide_eq_true (by kernel_rfl)) (by unfold Func.isWrapper; first | (rw [if_pos (by decide +kernel)]; kernel_rfl) | (rw [if_neg (by decide +kernel)]; exact ⟨rfl, rfl⟩))
    (fun os started H enc _ => lifted os started H enc)
theorem proved : Rows.Ipv4BackSaid := over
#print axioms proved
end Go.Proofs.Ytlnnghbbjbimoaa.ipv4Back
namespace Go.Proofs.Ytlnnghbbjbimoaa
/-- The row, under a short name, for the claim. -/
theorem ipv4Back_holds : Rows.Ipv4BackSaid := ipv4Back.proved
end Go.Proofs.Ytlnnghbbjbimoaa
