/- The law IdleTells: the state of any class behind any packet, until when it is over its limit, and what is carried over, is the document's. For all states, classes and times. -/
import Derived.Test.YtclfambjkolckaaIdleL
import Derived.Test.YtclfambjkolckaaIdleTW
namespace Go.Proofs.Ytclfambjkolckaa.Pure
open Go Go.RowKit Go.Proofs.Ytclfambjkolckaa.PI Go.Proofs.Ytclfambjkolckaa.SatDiv Go.Proofs.Ytclfambjkolckaa.Fl Go.Proofs.YtclfambjkolckaaW.PrintWords Go.Proofs.YtclfambjkolckaaW.PrintLast Go.Proofs.YtclfambjkolckaaW.PrintMore
set_option linter.unusedVariables false
set_option linter.unusedSimpArgs false
theorem has_lt {x : Nat} (h : FloatKind.f64.has x) : x < 18446744073709551616 := h
theorem idleTells_calls (q0 q1 q2 : Int) (c0 c1 : Int) (c2 : Nat) (c3 c4 c5 c6 c7 c8 : Int) (c9 c10 : Bool) (a0 a1 : Int) (w : World) (wq0 : (Lit.int .i64 q0).wf = true) (wq1 : (Lit.int .i64 q1).wf = true) (wq2 : (Lit.int .i64 q2).wf = true) (wc0 : (Lit.int .i64 c0).wf = true) (wc1 : (Lit.int .i64 c1).wf = true) (wc2 : FloatKind.f64.has c2) (wc3 : (Lit.int .i64 c3).wf = true) (wc4 : (Lit.int .i64 c4).wf = true) (wc5 : (Lit.int .i64 c5).wf = true) (wc6 : (Lit.int .i64 c6).wf = true) (wc7 : (Lit.int .i64 c7).wf = true) (wc8 : (Lit.int .i64 c8).wf = true) (wa0 : (Lit.int .i64 a0).wf = true) (wa1 : (Lit.int .i64 a1).wf = true) :
    Calls Try.prog 15 #[.agg #[.int .i64 q0, .int .i64 q1, .int .i64 q2], .agg #[.int .i64 c0, .int .i64 c1, .float .f64 c2, .int .i64 c3, .int .i64 c4, .int .i64 c5, .int .i64 c6, .int .i64 c7, .int .i64 c8, .bool c9, .bool c10], .agg #[.int .i64 a0, .int .i64 a1]] w fun e w' => e = .returned (.bool true) ∧ Below w.heap.size w w' := by
  have h2 := has_lt wc2
  obtain ⟨c, hc⟩ : ∃ c, okc c0 c1 c2 c3 c4 c5 c6 c7 c8 = c := ⟨_, rfl⟩
  exact IdleTW.way q0 q1 q2 a0 a1 (sv0 c q0 a1) (sv1 c q0 q1 a1 a0 c6 c7 c8) (sv2 c q0 q1 q2 a1 a0 c6 c7 c8) (nv0 c a1) (nv1 c c8) 0 q0 (cv1 c q1 c7 c8) q2 (lfV q2 a1) (decide (a1 < q2)) c0 c1 c2 c3 c4 c5 c6 c7 c8 c9 c10 w
    (sent_calls q0 q1 q2 c0 c1 c2 c3 c4 c5 c6 c7 c8 c9 c10 a0 a1 h2 c hc)
    (fun w => (flashlockref25_Sent.calls 100 q0 q1 q2 c0 c1 c2 c3 c4 c5 c6 c7 c8 c9 c10 a0 a1 _ _ _ w (rsent_f 100 (by decide) q0 q1 q2 c0 c1 c2 c3 c4 c5 c6 c7 c8 c9 c10 a0 a1 h2 c hc)).mono fun e w' h => ⟨h.1, by first | exact h.2 | exact h.2.below⟩)
    (fun w => (idle_New.calls 100 c0 c1 c2 c3 c4 c5 c6 c7 c8 c9 c10 a1 _ _ _ w (new_f 100 (by decide) c0 c1 c2 c3 c4 c5 c6 c7 c8 c9 c10 a1 h2 c hc)).mono fun e w' h => ⟨h.1, by first | exact h.2 | exact h.2.below⟩)
    (fun w => (flashlockref25_New.calls 100 c0 c1 c2 c3 c4 c5 c6 c7 c8 c9 c10 a1 _ _ _ w (rnew_f 100 (by decide) c0 c1 c2 c3 c4 c5 c6 c7 c8 c9 c10 a1 h2 c hc)).mono fun e w' h => ⟨h.1, by first | exact h.2 | exact h.2.below⟩)
    (fun w => (idle_Carry.calls 100 q0 q1 q2 c0 c1 c2 c3 c4 c5 c6 c7 c8 c9 c10 _ _ _ w (carry_f 100 (by decide) q0 q1 q2 c0 c1 c2 c3 c4 c5 c6 c7 c8 c9 c10 h2 c hc)).mono fun e w' h => ⟨h.1, by first | exact h.2 | exact h.2.below⟩)
    (fun w => (flashlockref25_Carry.calls 100 q0 q1 q2 c0 c1 c2 c3 c4 c5 c6 c7 c8 c9 c10 _ _ _ w (rcarry_f 100 (by decide) q0 q1 q2 c0 c1 c2 c3 c4 c5 c6 c7 c8 c9 c10 h2 c hc)).mono fun e w' h => ⟨h.1, by first | exact h.2 | exact h.2.below⟩)
    (fun w => (idle_Over.calls q0 q1 q2 a1 _ w (over_f q0 q1 q2 a1)).mono fun e w' h => ⟨h.1, by first | exact h.2 | exact h.2.below⟩)
    (fun w => (flashlockref25_Over.calls q0 q1 q2 a1 _ w rfl).mono fun e w' h => ⟨h.1, by first | exact h.2 | exact h.2.below⟩)
    (fun w => (idle_Left.calls q0 q1 q2 a1 _ w (left_f q0 q1 q2 a1)).mono fun e w' h => ⟨h.1, by first | exact h.2 | exact h.2.below⟩)
    (fun w => (flashlockref25_Left.calls q0 q1 q2 a1 _ w (rleft_f q0 q1 q2 a1)).mono fun e w' h => ⟨h.1, by first | exact h.2 | exact h.2.below⟩)
    lives_calls
end Go.Proofs.Ytclfambjkolckaa.Pure
