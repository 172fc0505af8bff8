/- The row of InetBytes, out of its contract. Written by wip/tools/row.py. -/
import Derived.Test.YtlnnghbbjbimoaaRows
import Derived.Test.YtlnnghbbjbimoaaPBx5
import Derived.Test.YtlnnghbbjbimoaaPureInetBytes
import Derived.Test.YtlnnghbbjbimoaaAgg
import Derived.WalkKit
import Derived.ProofKit
import Derived.OpenShut
import Derived.ShutString
import Derived.ChangeOld
import Derived.Below
import Derived.SizedLaws
namespace Go.Proofs.Ytlnnghbbjbimoaa.inetBytes
open Go.ChangeShapes Go.WideShapes Go.ChangeAt Go.RowKit
open Go.ChangeMaps (open_string shut_string)
set_option linter.unusedVariables false
set_option linter.constructorNameAsVariable false
set_option maxRecDepth 20000
theorem own : ownKnob Try.prog.godebug = none := by kernel_rfl
theorem laidOut : laidOutB Try.prog = true := by kernel_rfl
theorem open37 {w : World} {r : Reach} {base : Nat} {v : Value} (h : Value.okWide Try.prog w r base 37 v) : ∃ (a0 : Int) (a1 : Int), v = .agg #[.int .u64 a0, .int .u64 a1] ∧ (Lit.int .u64 a0).wf = true ∧ (Lit.int .u64 a1).wf = true := by
  obtain ⟨cs, rfl, hsz, hc⟩ := Agg.agg_cells (ts := [23, 23]) (by kernel_rfl) (by kernel_rfl) (by kernel_rfl) h
  obtain ⟨u0, e0⟩ := Agg.at_ (i := 0) hsz (by decide)
  obtain ⟨a0, h0, w0⟩ := Agg.cell_int Try.underlying23 (hc 0 _ _ e0 rfl)
  rw [h0] at e0
  obtain ⟨u1, e1⟩ := Agg.at_ (i := 1) hsz (by decide)
  obtain ⟨a1, h1, w1⟩ := Agg.cell_int Try.underlying23 (hc 1 _ _ e1 rfl)
  rw [h1] at e1
  refine ⟨a0, a1, ?_, w0, w1⟩
  refine congrArg Value.agg (Agg.arr_ext (l := [.int .u64 a0, .int .u64 a1]) hsz ?_)
  intro i hi
  have hi' : i < 2 := hi
  obtain rfl | rfl : i = 0 ∨ i = 1 := by omega
  · exact e0
  · exact e1
set_option maxRecDepth 100000 in
theorem lifted (os : Os) (started : os.Started) (H : Type) (enc : TypeId × Value → H) :
    ReturnsInHanded {} Try.checked os 10 .any (Rows.inetBytesSpec.pre6 enc Try.prog Try.f10 Rows.inetBytesRow.domain false) (Rows.inetBytesSpec.post enc Try.prog Try.f10 false true false false) := by
  refine returnsInHanded_of_change_sized (C := Try.checked) own started (by kernel_rfl) Try.func10
    (ChangeSpec.witness6 (enc := enc) (C := Try.checked) false ⟨#[], #[.int .i64 0, .agg #[.int .u64 0, .int .u64 0], .string ByteArray.empty], []⟩ 8 (by kernel_rfl) (by kernel_rfl) (by kernel_rfl) (by kernel_rfl)) ?_
  intro W base args ds gs before hval0 hW hcnd hsz0 _
  have hsz : (DataW.weightsEach Try.prog (Try.f10.params.toList ++ Rows.inetBytesSpec.plain.varTypes Try.prog) (ds ++ gs)).all (· ≤ reachBytes) = true := hsz0
  have hval : ∀ (j : Nat) t v, Try.f10.params[j]? = some t → args[j]? = some v → Value.okWide Try.prog W .any base t v := hval0
  have hW' := hW
  obtain ⟨p, q, hA0, hV, rfl, hfz, hnd⟩ := hW
  have hA : DataW.TrodAll enc Try.prog W 0 (fun _ => true) true Try.f10.params.toList args.toList ds p := hA0
  rw [Try.params10] at hA hval hsz
  obtain ⟨v0, vs0, d0, ds0, p0, q0, hargs, rfl, rfl, h0, r0⟩ := trodAll_cons hA
  obtain ⟨v1, vs1, d1, ds1, p1, q1, rfl, rfl, rfl, h1, r1⟩ := trodAll_cons r0
  obtain ⟨v2, vs2, d2, ds2, p2, q2, rfl, rfl, rfl, h2, r2⟩ := trodAll_cons r1
  obtain ⟨rfl, rfl, rfl⟩ := trodAll_nil r2
  obtain rfl : args = #[v0, v1, v2] := by cases args; simp_all
  obtain ⟨rfl, rfl⟩ := trodVars_none hV
  obtain ⟨a0, rfl, rfl, rfl, w0⟩ := open_int Try.underlying3 (hval 0 3 v0 rfl rfl) h0
  have k1 := h1
  have lt1 : ∀ x ∈ p1, x.block < W.heap.size := by obtain ⟨m, hm⟩ := k1; exact DataW.trod_lt m _ _ _ hm
  obtain ⟨a1_0, a1_1, rfl, w1_0, w1_1⟩ := open37 (hval 1 37 v1 rfl rfl)
  obtain ⟨a2, rfl, rfl, rfl, y2⟩ := open_string Try.underlying9 (hval 2 9 v2 rfl rfl) h2
  have w2 : a2.size ≤ 140737488351232 := by
    have z := sized_string hsz (j := 2) (t := 9) rfl rfl
    rw [Array.length_toList] at z
    exact z
  clear hA0 hval0 hsz0 hsz
  obtain ⟨k, h⟩ := Pure.InetBytes a0 a1_0 a1_1 a2 w0 w1_0 w1_1 w2
  refine (PB.flashlocklaw10_InetBytes.calls k a0 a1_0 a1_1 a2 true W h).mono fun e W' hq => ?_
  obtain ⟨he, bel0⟩ := hq
  have bel : Below W.heap.size W W' := bel0
  subst he
  exact ⟨_, rfl, _, _, _, [], _, [], hW', trodAll_mk1 (shut_bool Try.underlying4 _), (trodAll_cons_mk (shut_int Try.underlying3 w0) (trodAll_cons_mk (Below.trod laidOut (by kernel_rfl) (of_decide_eq_true (by kernel_rfl)) k1 bel lt1) (trodAll_cons_mk (shut_string Try.underlying9 y2) trodAll_mk0))), rfl, bel.frame _, fun h => by cases h⟩
theorem over : Rows.inetBytesRow.holds Try.pinned (OpenSpec.ofChange Rows.inetBytesSpec) :=
  OpenClaim.holds_of_wide 10 Try.f10 rfl rfl rfl rfl rfl rfl rfl ⟨rfl, rfl, rfl, rfl, rfl⟩ rfl rfl rfl rfl rfl (by kernel_rfl) Try.func10 (by kernel_rfl)
    (of_decide_eq_true (by kernel_rfl)) (by unfold Func.isWrapper; first | (rw [if_pos (by decide +kernel)]; kernel_rfl) | (rw [if_neg (by decide +kernel)]; exact ⟨rfl, rfl⟩))
    (fun os started H enc _ => lifted os started H enc)
theorem proved : Rows.InetBytesSaid := over
#print axioms proved
end Go.Proofs.Ytlnnghbbjbimoaa.inetBytes
namespace Go.Proofs.Ytlnnghbbjbimoaa
/-- The row, under a short name, for the claim. -/
theorem inetBytes_holds : Rows.InetBytesSaid := inetBytes.proved
end Go.Proofs.Ytlnnghbbjbimoaa
