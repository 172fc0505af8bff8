/- The law IdlePaced: the state of any class behind any packets, one by one, is the document's. For all classes and times, at most 50 packets (beyond it the examples are asked alone). -/
import Derived.Test.YtclfambjkolckaaIdleL
import Derived.Test.YtclfambjkolckaaIdlePW
namespace Go.Proofs.Ytclfambjkolckaa.Pure
open Go Go.RowKit Go.Proofs.Ytclfambjkolckaa.PI Go.Proofs.Ytclfambjkolckaa.SatDiv Go.Proofs.Ytclfambjkolckaa.Fl Go.Proofs.YtclfambjkolckaaW.PrintWords Go.Proofs.YtclfambjkolckaaW.PrintLast Go.Proofs.YtclfambjkolckaaW.PrintMore
set_option linter.unusedVariables false
set_option linter.unusedSimpArgs false
theorem idlePaced_calls (c0 c1 : Int) (c2 : Nat) (c3 c4 c5 c6 c7 c8 : Int) (c9 c10 : Bool) (time : Int) (a : Option Addr) (l : List Int) (cap : Nat) (w : World) (wc0 : (Lit.int .i64 c0).wf = true) (wc1 : (Lit.int .i64 c1).wf = true) (wc2 : FloatKind.f64.has c2) (wc3 : (Lit.int .i64 c3).wf = true) (wc4 : (Lit.int .i64 c4).wf = true) (wc5 : (Lit.int .i64 c5).wf = true) (wc6 : (Lit.int .i64 c6).wf = true) (wc7 : (Lit.int .i64 c7).wf = true) (wc8 : (Lit.int .i64 c8).wf = true) (wt : (Lit.int .i64 time).wf = true) (hm : l.length ≤ maxLen) (y : l.length * 8 ≤ 140737488351232) (hw : ∀ x ∈ l, (Lit.int .i64 x).wf = true) (hr : Kd.C (Kd.int .i64) w a l.length l) (hc0 : l.length ≤ cap) :
    Calls Try.prog 14 #[.agg #[.int .i64 c0, .int .i64 c1, .float .f64 c2, .int .i64 c3, .int .i64 c4, .int .i64 c5, .int .i64 c6, .int .i64 c7, .int .i64 c8, .bool c9, .bool c10], .int .i64 time, .slice a l.length cap] w fun e w' => e = .returned (.bool true) ∧ Below w.heap.size w w' := by
  have h2 : c2 < 18446744073709551616 := wc2
  by_cases hl : 50 < l.length
  · exact IdlePW.paced_long c0 c1 c2 c3 c4 c5 c6 c7 c8 c9 c10 time a l cap w hl lives_calls
  · obtain ⟨c, hc⟩ : ∃ c, okc c0 c1 c2 c3 c4 c5 c6 c7 c8 = c := ⟨_, rfl⟩
    refine IdlePW.paced_way (fun s now => (sv0 c s.1 now, sv1 c s.1 s.2.1 now time c6 c7 c8, sv2 c s.1 s.2.1 s.2.2 now time c6 c7 c8)) (nv0 c 0, nv1 c c8, 0) c0 c1 c2 c3 c4 c5 c6 c7 c8 c9 c10 time a l cap w (by omega) hr
      (fun w => (idle_New.calls 100 c0 c1 c2 c3 c4 c5 c6 c7 c8 c9 c10 0 _ _ _ w (new_f 100 (by decide) c0 c1 c2 c3 c4 c5 c6 c7 c8 c9 c10 0 h2 c hc)).mono fun e w' h => ⟨h.1, by first | exact h.2 | exact h.2.below⟩)
      (fun w => (flashlockref25_New.calls 100 c0 c1 c2 c3 c4 c5 c6 c7 c8 c9 c10 0 _ _ _ w (rnew_f 100 (by decide) c0 c1 c2 c3 c4 c5 c6 c7 c8 c9 c10 0 h2 c hc)).mono fun e w' h => ⟨h.1, by first | exact h.2 | exact h.2.below⟩)
      (fun s now w => (flashlockref25_Sent.calls 100 s.1 s.2.1 s.2.2 c0 c1 c2 c3 c4 c5 c6 c7 c8 c9 c10 time now _ _ _ w (rsent_f 100 (by decide) s.1 s.2.1 s.2.2 c0 c1 c2 c3 c4 c5 c6 c7 c8 c9 c10 time now h2 c hc)).mono fun e w' h => ⟨h.1, by first | exact h.2 | exact h.2.below⟩)
      (fun W hb => Paced.paced_calls _ _ c0 c1 c2 c3 c4 c5 c6 c7 c8 c9 c10 time a l cap W (by omega) ?_ (fun s now w => sent_calls s.1 s.2.1 s.2.2 c0 c1 c2 c3 c4 c5 c6 c7 c8 c9 c10 time now h2 c hc w)) lives_calls
    exact (Kd.heap_int .i64).C hb.block hr
end Go.Proofs.Ytclfambjkolckaa.Pure
