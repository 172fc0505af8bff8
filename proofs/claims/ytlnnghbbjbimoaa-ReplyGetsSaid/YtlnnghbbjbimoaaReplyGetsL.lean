/- The law ReplyGets: the reply of any bytes, or why it is none, is the document's; and so are the bytes whose version is shifted. For all texts and all shifts. -/
import Derived.Test.YtlnnghbbjbimoaaReplyGetsW
import Derived.Test.YtlnnghbbjbimoaaReplyV
import Derived.Test.YtlnnghbbjbimoaaRefGet
import Derived.Test.YtlnnghbbjbimoaaShift
import Derived.Test.YtlnnghbbjbimoaaPGx2
import Derived.Test.YtlnnghbbjbimoaaPGx7
import Derived.Test.YtlnnghbbjbimoaaPGx5
namespace Go.Proofs.Ytlnnghbbjbimoaa.ReplyGetsL
open Go Go.RowKit Go.Proofs.Ytlnnghbbjbimoaa.PG Go.Proofs.Ytlnnghbbjbimoaa.Reader Go.Proofs.Ytlnnghbbjbimoaa.ReplyGet Go.Proofs.Ytlnnghbbjbimoaa.ReplyV Go.Proofs.Ytlnnghbbjbimoaa.RefGet Go.Proofs.Ytlnnghbbjbimoaa.Shift Go.Proofs.Ytlnnghbbjbimoaa.ReplyGetsW Go.Proofs.YtlnnghbbjbimoaaW.PrintWords Go.Proofs.YtlnnghbbjbimoaaW.PrintLast Go.Proofs.YtlnnghbbjbimoaaW.PrintMore
open Go.Proofs.Ytlnnghbbjbimoaa.Pure (I64 rbytes put_f refput_f reply_lives)
set_option linter.unusedVariables false
set_option linter.unusedSimpArgs false
theorem law_calls (s : ByteArray) (by_ : Int) (w : World) (hs : s.size ≤ 140737488351232) (hb0 : (Lit.int .i64 by_).wf = true) :
    Calls Try.prog 12 #[.string s, .int .i64 by_] w fun e w' => e = .returned (.bool true) ∧ Below w.heap.size w w' := by
  have hb : I64 by_ := bounds_i64 hb0
  have hl : ∀ w, Calls Try.prog 67 #[] w fun e w' => e = .returned (.bool true) ∧ Below w.heap.size w w' := fun w => flashlocklaw39_lives.calls 100 true w reply_lives
  by_cases hz : (200 : Int) < s.size
  · exact long s by_ w hl (decide_eq_true hz)
  · have z : decide (200 < (s.size : Int)) = false := decide_eq_false hz
    have hg := fun w => get_calls s w (by omega)
    have hx : ∀ w, Calls Try.prog 69 #[.string s] w fun e w' => e = .returned (.tuple #[.agg #[.int .i64 (rv s 0), .int .i64 (rv s 1), .int .i64 (rv s 2), .int .i64 (rv s 3), .int .u32 (rv s 4), .int .i64 (rv s 5), .int .i64 (rv s 6), .int .i64 (rv s 7), .int .i64 (rv s 8), .int .i64 (rv s 9), .int .i64 (rv s 10)], .int .i64 (rg s)]) ∧ Below w.heap.size w w' := fun w => flashlockref39_Get.calls 200 s (rv s 0) (rv s 1) (rv s 2) (rv s 3) (rv s 4) (rv s 5) (rv s 6) (rv s 7) (rv s 8) (rv s 9) (rv s 10) (rg s) w (refGet_v 200 (by decide) s (by omega))
    by_cases he : rg s = 0
    · have e0 : (rg s == 0) = true := beq_iff_eq.2 he
      have e1 : (rg s != 0) = false := bne_eq_false_iff_eq.2 he
      obtain ⟨hr, i0, i1, i2, i3, i4, i5, i6, i7, i8, i9, i10⟩ := read_back s he
      have j0 : I64 (rv s 0) := ⟨by omega, by omega⟩
      have j1 : I64 (rv s 1) := ⟨by omega, by omega⟩
      have hp : ∀ w, Calls Try.prog 72 #[.agg #[.int .i64 (rv s 0), .int .i64 (rv s 1), .int .i64 (rv s 2), .int .i64 (rv s 3), .int .u32 (rv s 4), .int .i64 (rv s 5), .int .i64 (rv s 6), .int .i64 (rv s 7), .int .i64 (rv s 8), .int .i64 (rv s 9), .int .i64 (rv s 10)]] w fun e w' => e = .returned (.string s) ∧ Below w.heap.size w w' := fun w => reply_Put.calls 100 (rv s 0) (rv s 1) (rv s 2) (rv s 3) (rv s 4) (rv s 5) (rv s 6) (rv s 7) (rv s 8) (rv s 9) (rv s 10) s w ((put_f 100 (by decide) (rv s 0) (rv s 1) (rv s 2) (rv s 3) (rv s 4) (rv s 5) (rv s 6) (rv s 7) (rv s 8) (rv s 9) (rv s 10) i2 i3 i4 i5 i6 i7 i8 i9 i10).trans (by rw [← hr]))
      have same : (rv s 2 ≤ 0 ∨ 2147483648 < rv s 2 ∨ by_ < -2147483648 ∨ 2147483648 < by_) → ∀ w, Calls Try.prog 71 #[.string s, .int .i64 by_] w fun e w' => e = .returned (.string s) ∧ Below w.heap.size w w' := fun h w => shift_calls 100 s s by_ w (by omega) (by unfold sv; rw [if_pos (.inr (.inr h))])
      by_cases c2 : 0 < rv s 2
      · by_cases c3 : rv s 2 ≤ 2147483648
        · by_cases c4 : (-2147483648) ≤ by_
          · by_cases c5 : by_ ≤ 2147483648
            · have hn : nul s = false := by
                unfold nul
                have : (rv s 2 == 0) = false := beq_eq_false_iff_ne.2 (by omega)
                rw [this]; simp
              have ew : I64 (wrap64 (rv s 2 + by_)) := by unfold wrap64; exact ⟨by omega, by omega⟩
              obtain ⟨sh, hsh⟩ : ∃ sh, sh = strOfNums (rbytes (rv s 0) (rv s 1) (wrap64 (rv s 2 + by_)) (rv s 3) (rv s 4) [rv s 5, rv s 6, rv s 7, rv s 8, rv s 9, rv s 10]) := ⟨_, rfl⟩
              have hS : ∀ w, Calls Try.prog 71 #[.string s, .int .i64 by_] w fun e w' => e = .returned (.string sh) ∧ Below w.heap.size w w' := fun w => shift_calls 100 s sh by_ w (by omega) (by
                unfold sv; rw [if_neg (by rw [hn]; simp; omega), hsh]
                exact put_f 100 (by decide) (rv s 0) (rv s 1) (wrap64 (rv s 2 + by_)) (rv s 3) (rv s 4) (rv s 5) (rv s 6) (rv s 7) (rv s 8) (rv s 9) (rv s 10) ew i3 i4 i5 i6 i7 i8 i9 i10)
              have hR : ∀ w, Calls Try.prog 70 #[.agg #[.int .i64 (rv s 0), .int .i64 (rv s 1), .int .i64 (wrap64 (rv s 2 + by_)), .int .i64 (rv s 3), .int .u32 (rv s 4), .int .i64 (rv s 5), .int .i64 (rv s 6), .int .i64 (rv s 7), .int .i64 (rv s 8), .int .i64 (rv s 9), .int .i64 (rv s 10)]] w fun e w' => e = .returned (.string sh) ∧ Below w.heap.size w w' := fun w => flashlockref39_Put.calls 100 (rv s 0) (rv s 1) (wrap64 (rv s 2 + by_)) (rv s 3) (rv s 4) (rv s 5) (rv s 6) (rv s 7) (rv s 8) (rv s 9) (rv s 10) sh w (by rw [hsh]; exact refput_f 100 (by decide) (rv s 0) (rv s 1) (wrap64 (rv s 2 + by_)) (rv s 3) (rv s 4) (rv s 5) (rv s 6) (rv s 7) (rv s 8) (rv s 9) (rv s 10) j0 j1 ew i3 i4 i5 i6 i7 i8 i9 i10)
              exact far s sh by_ (rv s 0) (rv s 1) (rv s 2) (rv s 3) (rv s 4) (rv s 5) (rv s 6) (rv s 7) (rv s 8) (rv s 9) (rv s 10) (rg s) w hl hg hx hS hp hR z e0 e1 (decide_eq_true c2) (decide_eq_true c3) (decide_eq_true c4) (decide_eq_true c5)
            · exact same5 s s by_ (rv s 0) (rv s 1) (rv s 2) (rv s 3) (rv s 4) (rv s 5) (rv s 6) (rv s 7) (rv s 8) (rv s 9) (rv s 10) (rg s) w hl hg hx (same (by omega)) hp z e0 e1 (decide_eq_true c2) (decide_eq_true c3) (decide_eq_true c4) (decide_eq_false c5)
          · exact same4 s s by_ (rv s 0) (rv s 1) (rv s 2) (rv s 3) (rv s 4) (rv s 5) (rv s 6) (rv s 7) (rv s 8) (rv s 9) (rv s 10) (rg s) w hl hg hx (same (by omega)) hp z e0 e1 (decide_eq_true c2) (decide_eq_true c3) (decide_eq_false c4)
        · exact same3 s s by_ (rv s 0) (rv s 1) (rv s 2) (rv s 3) (rv s 4) (rv s 5) (rv s 6) (rv s 7) (rv s 8) (rv s 9) (rv s 10) (rg s) w hl hg hx (same (by omega)) hp z e0 e1 (decide_eq_true c2) (decide_eq_false c3)
      · exact same2 s s by_ (rv s 0) (rv s 1) (rv s 2) (rv s 3) (rv s 4) (rv s 5) (rv s 6) (rv s 7) (rv s 8) (rv s 9) (rv s 10) (rg s) w hl hg hx (same (by omega)) hp z e0 e1 (decide_eq_false c2)
    · exact bad s s by_ (rv s 0) (rv s 1) (rv s 2) (rv s 3) (rv s 4) (rv s 5) (rv s 6) (rv s 7) (rv s 8) (rv s 9) (rv s 10) (rg s) w hl hg hx (fun w => shift_calls 100 s s by_ w (by omega) (by unfold sv; rw [if_pos (.inl he)])) z (beq_eq_false_iff_ne.2 he) (bne_iff_ne.2 he)
end Go.Proofs.Ytlnnghbbjbimoaa.ReplyGetsL
