/- The row of ShareOrders, out of its contract. Written by wip/tools/row.py. -/
import Derived.Test.YtclfambjkolckaaRows
import Derived.Test.YtclfambjkolckaaShareOrders
import Derived.Test.YtclfambjkolckaaAgg
import Derived.WalkKit
import Derived.ProofKit
import Derived.OpenShut
import Derived.ShutString
import Derived.ChangeOld
import Derived.Below
import Derived.SizedLaws
namespace Go.Proofs.Ytclfambjkolckaa.shareOrders
open Go.ChangeShapes Go.WideShapes Go.ChangeAt Go.RowKit
open Go.ChangeMaps (open_string shut_string)
set_option linter.unusedVariables false
set_option linter.constructorNameAsVariable false
set_option maxRecDepth 20000
theorem own : ownKnob Try.prog.godebug = none := by kernel_rfl
theorem laidOut : laidOutB Try.prog = true := by kernel_rfl
theorem open92 {w : World} {r : Reach} {base : Nat} {v : Value} (h : Value.okWide Try.prog w r base 92 v) : ∃ (a0 : Int) (a1 : Int) (a2 : Int), v = .agg #[.int .u64 a0, .int .u64 a1, .int .u64 a2] ∧ (Lit.int .u64 a0).wf = true ∧ (Lit.int .u64 a1).wf = true ∧ (Lit.int .u64 a2).wf = true := by
  obtain ⟨cs, rfl, hsz, hc⟩ := Agg.agg_cells (ts := [82, 82, 82]) (by kernel_rfl) (by kernel_rfl) (by kernel_rfl) h
  obtain ⟨u0, e0⟩ := Agg.at_ (i := 0) hsz (by decide)
  obtain ⟨a0, h0, w0⟩ := Agg.cell_int Try.underlying82 (hc 0 _ _ e0 rfl)
  rw [h0] at e0
  obtain ⟨u1, e1⟩ := Agg.at_ (i := 1) hsz (by decide)
  obtain ⟨a1, h1, w1⟩ := Agg.cell_int Try.underlying82 (hc 1 _ _ e1 rfl)
  rw [h1] at e1
  obtain ⟨u2, e2⟩ := Agg.at_ (i := 2) hsz (by decide)
  obtain ⟨a2, h2, w2⟩ := Agg.cell_int Try.underlying82 (hc 2 _ _ e2 rfl)
  rw [h2] at e2
  refine ⟨a0, a1, a2, ?_, w0, w1, w2⟩
  refine congrArg Value.agg (Agg.arr_ext (l := [.int .u64 a0, .int .u64 a1, .int .u64 a2]) hsz ?_)
  intro i hi
  have hi' : i < 3 := hi
  obtain rfl | rfl | rfl : i = 0 ∨ i = 1 ∨ i = 2 := by omega
  · exact e0
  · exact e1
  · exact e2
set_option maxRecDepth 100000 in
theorem lifted (os : Os) (started : os.Started) (H : Type) (enc : TypeId × Value → H) :
    ReturnsInHanded {} Try.checked os 12 .any (Rows.shareOrdersSpec.pre6 enc Try.prog Try.f12 Rows.shareOrdersRow.domain false) (Rows.shareOrdersSpec.post enc Try.prog Try.f12 false true false false) := by
  refine returnsInHanded_of_change_sized (C := Try.checked) own started (by kernel_rfl) Try.func12
    (ChangeSpec.witness6 (enc := enc) (C := Try.checked) false ⟨#[], #[.agg #[.int .u64 0, .int .u64 0, .int .u64 0], .int .i64 0], []⟩ 8 (by kernel_rfl) (by kernel_rfl) (by kernel_rfl) (by kernel_rfl)) ?_
  intro W base args ds gs before hval0 hW hcnd hsz0 _
  have hsz : (DataW.weightsEach Try.prog (Try.f12.params.toList ++ Rows.shareOrdersSpec.plain.varTypes Try.prog) (ds ++ gs)).all (· ≤ reachBytes) = true := hsz0
  have hval : ∀ (j : Nat) t v, Try.f12.params[j]? = some t → args[j]? = some v → Value.okWide Try.prog W .any base t v := hval0
  have hW' := hW
  obtain ⟨p, q, hA0, hV, rfl, hfz, hnd⟩ := hW
  have hA : DataW.TrodAll enc Try.prog W 0 (fun _ => true) true Try.f12.params.toList args.toList ds p := hA0
  rw [Try.params12] at hA hval hsz
  obtain ⟨v0, vs0, d0, ds0, p0, q0, hargs, rfl, rfl, h0, r0⟩ := trodAll_cons hA
  obtain ⟨v1, vs1, d1, ds1, p1, q1, rfl, rfl, rfl, h1, r1⟩ := trodAll_cons r0
  obtain ⟨rfl, rfl, rfl⟩ := trodAll_nil r1
  obtain rfl : args = #[v0, v1] := by cases args; simp_all
  obtain ⟨rfl, rfl⟩ := trodVars_none hV
  have k0 := h0
  have lt0 : ∀ x ∈ p0, x.block < W.heap.size := by obtain ⟨m, hm⟩ := k0; exact DataW.trod_lt m _ _ _ hm
  obtain ⟨a0_0, a0_1, a0_2, rfl, w0_0, w0_1, w0_2⟩ := open92 (hval 0 92 v0 rfl rfl)
  obtain ⟨a1, rfl, rfl, rfl, w1⟩ := open_int Try.underlying3 (hval 1 3 v1 rfl rfl) h1
  clear hA0 hval0 hsz0 hsz
  refine (Fl.orders_calls a0_0 a0_1 a0_2 a1 W w0_0 w0_1 w0_2 w1).mono fun e W' ⟨he, bel⟩ => ?_
  subst he
  exact ⟨_, rfl, _, _, _, [], _, [], hW', trodAll_mk1 (shut_bool Try.underlying4 _), (trodAll_cons_mk (Below.trod laidOut (by kernel_rfl) (of_decide_eq_true (by kernel_rfl)) k0 bel lt0) (trodAll_cons_mk (shut_int Try.underlying3 w1) trodAll_mk0)), rfl, bel.frame _, fun h => by cases h⟩
theorem over : Rows.shareOrdersRow.holds Try.pinned (OpenSpec.ofChange Rows.shareOrdersSpec) :=
  OpenClaim.holds_of_wide 12 Try.f12 rfl rfl rfl rfl rfl rfl rfl ⟨rfl, rfl, rfl, rfl, rfl⟩ rfl rfl rfl rfl rfl (by kernel_rfl) Try.func12 (by kernel_rfl)
    (of_decide_eq_true (by kernel_rfl)) (by unfold Func.isWrapper; first | (rw [if_pos (by decide +kernel)]; kernel_rfl) | (rw [if_neg (by decide +kernel)]; exact ⟨rfl, rfl⟩))
    (fun os started H enc _ => lifted os started H enc)
theorem proved : Rows.ShareOrdersSaid := over
#print axioms proved
end Go.Proofs.Ytclfambjkolckaa.shareOrders
namespace Go.Proofs.Ytclfambjkolckaa
/-- The row, under a short name, for the claim. -/
theorem shareOrders_holds : Rows.ShareOrdersSaid := shareOrders.proved
end Go.Proofs.Ytclfambjkolckaa
