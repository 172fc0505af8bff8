/- The row of IdleWaits, out of its contract. Written by wip/tools/row.py. -/
import Derived.Test.YtclfambjkolckaaRows
import Derived.Test.YtclfambjkolckaaIdleWL
import Derived.Test.YtclfambjkolckaaAgg
import Derived.WalkKit
import Derived.ProofKit
import Derived.OpenShut
import Derived.ShutString
import Derived.ChangeOld
import Derived.Below
import Derived.SizedLaws
namespace Go.Proofs.Ytclfambjkolckaa.idleWaits
open Go.ChangeShapes Go.WideShapes Go.ChangeAt Go.RowKit
open Go.ChangeMaps (open_string shut_string)
set_option linter.unusedVariables false
set_option linter.constructorNameAsVariable false
set_option maxRecDepth 20000
theorem own : ownKnob Try.prog.godebug = none := by kernel_rfl
theorem laidOut : laidOutB Try.prog = true := by kernel_rfl
theorem open95 {w : World} {r : Reach} {base : Nat} {v : Value} (h : Value.okWide Try.prog w r base 95 v) : ∃ (a0 : Int) (a1 : Int) (a2 : Nat) (a3 : Int) (a4 : Int) (a5 : Int) (a6 : Int) (a7 : Int) (a8 : Int) (a9 : Bool) (a10 : Bool), v = .agg #[.int .i64 a0, .int .i64 a1, .float .f64 a2, .int .i64 a3, .int .i64 a4, .int .i64 a5, .int .i64 a6, .int .i64 a7, .int .i64 a8, .bool a9, .bool a10] ∧ (Lit.int .i64 a0).wf = true ∧ (Lit.int .i64 a1).wf = true ∧ FloatKind.f64.has a2 ∧ (Lit.int .i64 a3).wf = true ∧ (Lit.int .i64 a4).wf = true ∧ (Lit.int .i64 a5).wf = true ∧ (Lit.int .i64 a6).wf = true ∧ (Lit.int .i64 a7).wf = true ∧ (Lit.int .i64 a8).wf = true := by
  obtain ⟨cs, rfl, hsz, hc⟩ := Agg.agg_cells (ts := [3, 3, 79, 3, 3, 3, 3, 3, 3, 4, 4]) (by kernel_rfl) (by kernel_rfl) (by kernel_rfl) h
  obtain ⟨u0, e0⟩ := Agg.at_ (i := 0) hsz (by decide)
  obtain ⟨a0, h0, w0⟩ := Agg.cell_int Try.underlying3 (hc 0 _ _ e0 rfl)
  rw [h0] at e0
  obtain ⟨u1, e1⟩ := Agg.at_ (i := 1) hsz (by decide)
  obtain ⟨a1, h1, w1⟩ := Agg.cell_int Try.underlying3 (hc 1 _ _ e1 rfl)
  rw [h1] at e1
  obtain ⟨u2, e2⟩ := Agg.at_ (i := 2) hsz (by decide)
  obtain ⟨a2, h2, w2⟩ := Agg.cell_float Try.underlying79 (hc 2 _ _ e2 rfl)
  rw [h2] at e2
  obtain ⟨u3, e3⟩ := Agg.at_ (i := 3) hsz (by decide)
  obtain ⟨a3, h3, w3⟩ := Agg.cell_int Try.underlying3 (hc 3 _ _ e3 rfl)
  rw [h3] at e3
  obtain ⟨u4, e4⟩ := Agg.at_ (i := 4) hsz (by decide)
  obtain ⟨a4, h4, w4⟩ := Agg.cell_int Try.underlying3 (hc 4 _ _ e4 rfl)
  rw [h4] at e4
  obtain ⟨u5, e5⟩ := Agg.at_ (i := 5) hsz (by decide)
  obtain ⟨a5, h5, w5⟩ := Agg.cell_int Try.underlying3 (hc 5 _ _ e5 rfl)
  rw [h5] at e5
  obtain ⟨u6, e6⟩ := Agg.at_ (i := 6) hsz (by decide)
  obtain ⟨a6, h6, w6⟩ := Agg.cell_int Try.underlying3 (hc 6 _ _ e6 rfl)
  rw [h6] at e6
  obtain ⟨u7, e7⟩ := Agg.at_ (i := 7) hsz (by decide)
  obtain ⟨a7, h7, w7⟩ := Agg.cell_int Try.underlying3 (hc 7 _ _ e7 rfl)
  rw [h7] at e7
  obtain ⟨u8, e8⟩ := Agg.at_ (i := 8) hsz (by decide)
  obtain ⟨a8, h8, w8⟩ := Agg.cell_int Try.underlying3 (hc 8 _ _ e8 rfl)
  rw [h8] at e8
  obtain ⟨u9, e9⟩ := Agg.at_ (i := 9) hsz (by decide)
  obtain ⟨a9, h9⟩ := Agg.cell_bool Try.underlying4 (hc 9 _ _ e9 rfl)
  rw [h9] at e9
  obtain ⟨u10, e10⟩ := Agg.at_ (i := 10) hsz (by decide)
  obtain ⟨a10, h10⟩ := Agg.cell_bool Try.underlying4 (hc 10 _ _ e10 rfl)
  rw [h10] at e10
  refine ⟨a0, a1, a2, a3, a4, a5, a6, a7, a8, a9, a10, ?_, w0, w1, w2, w3, w4, w5, w6, w7, w8⟩
  refine congrArg Value.agg (Agg.arr_ext (l := [.int .i64 a0, .int .i64 a1, .float .f64 a2, .int .i64 a3, .int .i64 a4, .int .i64 a5, .int .i64 a6, .int .i64 a7, .int .i64 a8, .bool a9, .bool a10]) hsz ?_)
  intro i hi
  have hi' : i < 11 := hi
  obtain rfl | rfl | rfl | rfl | rfl | rfl | rfl | rfl | rfl | rfl | rfl : i = 0 ∨ i = 1 ∨ i = 2 ∨ i = 3 ∨ i = 4 ∨ i = 5 ∨ i = 6 ∨ i = 7 ∨ i = 8 ∨ i = 9 ∨ i = 10 := by omega
  · exact e0
  · exact e1
  · exact e2
  · exact e3
  · exact e4
  · exact e5
  · exact e6
  · exact e7
  · exact e8
  · exact e9
  · exact e10
theorem open96 {w : World} {r : Reach} {base : Nat} {v : Value} (h : Value.okWide Try.prog w r base 96 v) : ∃ (a0 : Int) (a1 : Int) (a2 : Int), v = .agg #[.int .i64 a0, .int .i64 a1, .int .i64 a2] ∧ (Lit.int .i64 a0).wf = true ∧ (Lit.int .i64 a1).wf = true ∧ (Lit.int .i64 a2).wf = true := by
  obtain ⟨cs, rfl, hsz, hc⟩ := Agg.agg_cells (ts := [3, 3, 3]) (by kernel_rfl) (by kernel_rfl) (by kernel_rfl) h
  obtain ⟨u0, e0⟩ := Agg.at_ (i := 0) hsz (by decide)
  obtain ⟨a0, h0, w0⟩ := Agg.cell_int Try.underlying3 (hc 0 _ _ e0 rfl)
  rw [h0] at e0
  obtain ⟨u1, e1⟩ := Agg.at_ (i := 1) hsz (by decide)
  obtain ⟨a1, h1, w1⟩ := Agg.cell_int Try.underlying3 (hc 1 _ _ e1 rfl)
  rw [h1] at e1
  obtain ⟨u2, e2⟩ := Agg.at_ (i := 2) hsz (by decide)
  obtain ⟨a2, h2, w2⟩ := Agg.cell_int Try.underlying3 (hc 2 _ _ e2 rfl)
  rw [h2] at e2
  refine ⟨a0, a1, a2, ?_, w0, w1, w2⟩
  refine congrArg Value.agg (Agg.arr_ext (l := [.int .i64 a0, .int .i64 a1, .int .i64 a2]) hsz ?_)
  intro i hi
  have hi' : i < 3 := hi
  obtain rfl | rfl | rfl : i = 0 ∨ i = 1 ∨ i = 2 := by omega
  · exact e0
  · exact e1
  · exact e2
set_option maxRecDepth 100000 in
theorem lifted (os : Os) (started : os.Started) (H : Type) (enc : TypeId × Value → H) :
    ReturnsInHanded {} Try.checked os 13 .any (Rows.idleWaitsSpec.pre6 enc Try.prog Try.f13 Rows.idleWaitsRow.domain false) (Rows.idleWaitsSpec.post enc Try.prog Try.f13 false true false false) := by
  refine returnsInHanded_of_change_sized (C := Try.checked) own started (by kernel_rfl) Try.func13
    (ChangeSpec.witness6 (enc := enc) (C := Try.checked) false ⟨#[], #[.agg #[.int .i64 0, .int .i64 0, .float .f64 0, .int .i64 0, .int .i64 0, .int .i64 0, .int .i64 0, .int .i64 0, .int .i64 0, .bool false, .bool false], .agg #[.int .i64 0, .int .i64 0, .int .i64 0], .int .i64 0], []⟩ 8 (by kernel_rfl) (by kernel_rfl) (by kernel_rfl) (by kernel_rfl)) ?_
  intro W base args ds gs before hval0 hW hcnd hsz0 _
  have hsz : (DataW.weightsEach Try.prog (Try.f13.params.toList ++ Rows.idleWaitsSpec.plain.varTypes Try.prog) (ds ++ gs)).all (· ≤ reachBytes) = true := hsz0
  have hval : ∀ (j : Nat) t v, Try.f13.params[j]? = some t → args[j]? = some v → Value.okWide Try.prog W .any base t v := hval0
  have hW' := hW
  obtain ⟨p, q, hA0, hV, rfl, hfz, hnd⟩ := hW
  have hA : DataW.TrodAll enc Try.prog W 0 (fun _ => true) true Try.f13.params.toList args.toList ds p := hA0
  rw [Try.params13] at hA hval hsz
  obtain ⟨v0, vs0, d0, ds0, p0, q0, hargs, rfl, rfl, h0, r0⟩ := trodAll_cons hA
  obtain ⟨v1, vs1, d1, ds1, p1, q1, rfl, rfl, rfl, h1, r1⟩ := trodAll_cons r0
  obtain ⟨v2, vs2, d2, ds2, p2, q2, rfl, rfl, rfl, h2, r2⟩ := trodAll_cons r1
  obtain ⟨rfl, rfl, rfl⟩ := trodAll_nil r2
  obtain rfl : args = #[v0, v1, v2] := by cases args; simp_all
  obtain ⟨rfl, rfl⟩ := trodVars_none hV
  have k0 := h0
  have lt0 : ∀ x ∈ p0, x.block < W.heap.size := by obtain ⟨m, hm⟩ := k0; exact DataW.trod_lt m _ _ _ hm
  obtain ⟨a0_0, a0_1, a0_2, a0_3, a0_4, a0_5, a0_6, a0_7, a0_8, a0_9, a0_10, rfl, w0_0, w0_1, w0_2, w0_3, w0_4, w0_5, w0_6, w0_7, w0_8⟩ := open95 (hval 0 95 v0 rfl rfl)
  have k1 := h1
  have lt1 : ∀ x ∈ p1, x.block < W.heap.size := by obtain ⟨m, hm⟩ := k1; exact DataW.trod_lt m _ _ _ hm
  obtain ⟨a1_0, a1_1, a1_2, rfl, w1_0, w1_1, w1_2⟩ := open96 (hval 1 96 v1 rfl rfl)
  obtain ⟨a2, rfl, rfl, rfl, w2⟩ := open_int Try.underlying3 (hval 2 3 v2 rfl rfl) h2
  clear hA0 hval0 hsz0 hsz
  refine (Go.Proofs.Ytclfambjkolckaa.Pure.idleWaits_calls a0_0 a0_1 a0_2 a0_3 a0_4 a0_5 a0_6 a0_7 a0_8 a0_9 a0_10 a1_0 a1_1 a1_2 a2 W w0_0 w0_1 w0_2 w0_3 w0_4 w0_5 w0_6 w0_7 w0_8 w1_0 w1_1 w1_2 w2).mono fun e W' ⟨he, bel⟩ => ?_
  subst he
  exact ⟨_, rfl, _, _, _, [], _, [], hW', trodAll_mk1 (shut_bool Try.underlying4 _), (trodAll_cons_mk (Below.trod laidOut (by kernel_rfl) (of_decide_eq_true (by kernel_rfl)) k0 bel lt0) (trodAll_cons_mk (Below.trod laidOut (by kernel_rfl) (of_decide_eq_true (by kernel_rfl)) k1 bel lt1) (trodAll_cons_mk (shut_int Try.underlying3 w2) trodAll_mk0))), rfl, bel.frame _, fun h => by cases h⟩
theorem over : Rows.idleWaitsRow.holds Try.pinned (OpenSpec.ofChange Rows.idleWaitsSpec) :=
  OpenClaim.holds_of_wide 13 Try.f13 rfl rfl rfl rfl rfl rfl rfl ⟨rfl, rfl, rfl, rfl, rfl⟩ rfl rfl rfl rfl rfl (by kernel_rfl) Try.func13 (by kernel_rfl)
    (of_decide_eq_true (by kernel_rfl)) (by unfold Func.isWrapper; first | (rw [if_pos (by decide +kernel)]; kernel_rfl) | (rw [if_neg (by decide +kernel)]; exact ⟨rfl, rfl⟩))
    (fun os started H enc _ => lifted os started H enc)
theorem proved : Rows.IdleWaitsSaid := over
#print axioms proved
end Go.Proofs.Ytclfambjkolckaa.idleWaits
namespace Go.Proofs.Ytclfambjkolckaa
/-- The row, under a short name, for the claim. -/
theorem idleWaits_holds : Rows.IdleWaitsSaid := idleWaits.proved
end Go.Proofs.Ytclfambjkolckaa
