/- What is written of a reply is read; shifted there and back it is as it was: the pure statement behind flashlocklaw39.ReplyBack, for all replies. -/
import Derived.Test.YtlnnghbbjbimoaaReplyV
import Derived.Test.YtlnnghbbjbimoaaShift
import Derived.Test.YtlnnghbbjbimoaaPHx6
import Derived.Test.YtlnnghbbjbimoaaPHx2
import Derived.Test.YtlnnghbbjbimoaaPHx4
namespace Go.Proofs.Ytlnnghbbjbimoaa.ReplyB
open Go.RowKit Go.Proofs.Ytlnnghbbjbimoaa.PH Go.Proofs.Ytlnnghbbjbimoaa.OctPut Go.Proofs.Ytlnnghbbjbimoaa.ReplyGet Go.Proofs.Ytlnnghbbjbimoaa.ReplyV Go.Proofs.Ytlnnghbbjbimoaa.Shift Go.Proofs.Ytlnnghbbjbimoaa.AtL Go.Proofs.YtlnnghbbjbimoaaW.PrintWords Go.Proofs.YtlnnghbbjbimoaaW.PrintLast Go.Proofs.YtlnnghbbjbimoaaW.PrintMore
open Go.Proofs.Ytlnnghbbjbimoaa.Pure (I64 rbytes vbs vbs_length put_f)
set_option linter.unusedVariables false
set_option linter.unusedSimpArgs false
/-- the bytes of a reply as a text -/
def B (a0 a1 a2 a3 a4 a5 a6 a7 a8 a9 a10 : Int) : ByteArray := strOfNums (rbytes a0 a1 a2 a3 a4 [a5, a6, a7, a8, a9, a10])
theorem B_size (a0 a1 a2 a3 a4 a5 a6 a7 a8 a9 a10 : Int) : (B a0 a1 a2 a3 a4 a5 a6 a7 a8 a9 a10).size ≤ 200 := by
  unfold B
  rw [strOfNums_size]
  have h2 := vb_len9 (zig a2); have h3 := vb_len9 (zig a3); have h := vbs_length [a5, a6, a7, a8, a9, a10]
  have hb := Go.Proofs.Ytlnnghbbjbimoaa.Pure.be_length 4 a4
  unfold rbytes
  simp only [List.length_append, List.length_cons, List.length_nil] at h ⊢
  omega
section
variable (a0 a1 a2 a3 a4 a5 a6 a7 a8 a9 a10 : Int) (h0 : 0 ≤ a0 ∧ a0 ≤ 255) (h1 : 0 ≤ a1 ∧ a1 ≤ 255) (h2 : I64 a2) (h3 : I64 a3) (h4 : 0 ≤ a4 ∧ a4 < 4294967296) (h5 : I64 a5) (h6 : I64 a6) (h7 : I64 a7) (h8 : I64 a8) (h9 : I64 a9) (h10 : I64 a10)
include h2 h3 h4 h5 h6 h7 h8 h9 h10
theorem put_v (k : Nat) (hk : 40 ≤ k) : reply_Put.f k a0 a1 a2 a3 a4 a5 a6 a7 a8 a9 a10 = some (B a0 a1 a2 a3 a4 a5 a6 a7 a8 a9 a10) := put_f k hk a0 a1 a2 a3 a4 a5 a6 a7 a8 a9 a10 h2 h3 h4 h5 h6 h7 h8 h9 h10
include h0 h1
theorem get_v : reply_Get.f (B a0 a1 a2 a3 a4 a5 a6 a7 a8 a9 a10) = some (a0, a1, a2, a3, a4, a5, a6, a7, a8, a9, a10, 0) := by
  have hz := B_size a0 a1 a2 a3 a4 a5 a6 a7 a8 a9 a10
  unfold reply_Get.f
  rw [if_pos (by omega)]
  obtain ⟨w, w0, w1, w2, w3, w4, w5, w6, w7, w8, w9, w10⟩ := Go.Proofs.Ytlnnghbbjbimoaa.ReplyV.written a0 a1 a2 a3 a4 a5 a6 a7 a8 a9 a10 h0 h1 h2 h3 h4 h5 h6 h7 h8 h9 h10 (B a0 a1 a2 a3 a4 a5 a6 a7 a8 a9 a10) rfl
  rw [w, w0, w1, w2, w3, w4, w5, w6, w7, w8, w9, w10]
theorem shift_same (k : Nat) (by_ : Int) (h : a2 ≤ 0 ∨ 2147483648 < a2 ∨ by_ < -2147483648 ∨ 2147483648 < by_) : reply_Shift.f k (B a0 a1 a2 a3 a4 a5 a6 a7 a8 a9 a10) by_ = some (B a0 a1 a2 a3 a4 a5 a6 a7 a8 a9 a10) := by
  have hz := B_size a0 a1 a2 a3 a4 a5 a6 a7 a8 a9 a10
  unfold reply_Shift.f sv
  rw [if_pos (by omega)]
  obtain ⟨w, w0, w1, w2, w3, w4, w5, w6, w7, w8, w9, w10⟩ := Go.Proofs.Ytlnnghbbjbimoaa.ReplyV.written a0 a1 a2 a3 a4 a5 a6 a7 a8 a9 a10 h0 h1 h2 h3 h4 h5 h6 h7 h8 h9 h10 (B a0 a1 a2 a3 a4 a5 a6 a7 a8 a9 a10) rfl
  rw [if_pos (.inr (.inr (by rw [w2]; exact h)))]
theorem shift_far (k : Nat) (hk : 40 ≤ k) (by_ : Int) (hv : 1 ≤ a2 ∧ a2 ≤ 2147483648) (hb : -2147483648 ≤ by_ ∧ by_ ≤ 2147483648) : reply_Shift.f k (B a0 a1 a2 a3 a4 a5 a6 a7 a8 a9 a10) by_ = some (B a0 a1 (a2 + by_) a3 a4 a5 a6 a7 a8 a9 a10) := by
  have hz := B_size a0 a1 a2 a3 a4 a5 a6 a7 a8 a9 a10
  unfold reply_Shift.f sv
  rw [if_pos (by omega)]
  obtain ⟨w, w0, w1, w2, w3, w4, w5, w6, w7, w8, w9, w10⟩ := Go.Proofs.Ytlnnghbbjbimoaa.ReplyV.written a0 a1 a2 a3 a4 a5 a6 a7 a8 a9 a10 h0 h1 h2 h3 h4 h5 h6 h7 h8 h9 h10 (B a0 a1 a2 a3 a4 a5 a6 a7 a8 a9 a10) rfl
  have hn : nul (B a0 a1 a2 a3 a4 a5 a6 a7 a8 a9 a10) = false := by
    unfold nul
    rw [w2]
    have : (a2 == 0) = false := beq_eq_false_iff_ne.2 (by omega)
    rw [this]; simp
  rw [if_neg (by rw [w, w2, hn]; simp; omega), w0, w1, w2, w3, w4, w5, w6, w7, w8, w9, w10]
  have e : wrap64 (a2 + by_) = a2 + by_ := by unfold wrap64; omega
  rw [e]
  exact put_f k hk a0 a1 (a2 + by_) a3 a4 a5 a6 a7 a8 a9 a10 ⟨by omega, by omega⟩ h3 h4 h5 h6 h7 h8 h9 h10
end
theorem lives_v (k : Nat) (hk : 40 ≤ k) : flashlocklaw39_lives.f k = some true := by
  have z : I64 0 := ⟨by decide, by decide⟩
  unfold flashlocklaw39_lives.f
  rw [put_v 0 0 0 0 0 0 0 0 0 0 0 z z (by omega) z z z z z z k hk]
  simp only [Option.bind_some]
  decide +kernel
end Go.Proofs.Ytlnnghbbjbimoaa.ReplyB
namespace Go.Proofs.Ytlnnghbbjbimoaa.Pure
open Go.RowKit Go.Proofs.Ytlnnghbbjbimoaa.PH Go.Proofs.Ytlnnghbbjbimoaa.ReplyB Go.Proofs.YtlnnghbbjbimoaaW.PrintWords Go.Proofs.YtlnnghbbjbimoaaW.PrintLast Go.Proofs.YtlnnghbbjbimoaaW.PrintMore
set_option linter.unusedVariables false
set_option linter.unusedSimpArgs false
theorem back (a0 a1 a2 a3 a4 a5 a6 a7 a8 a9 a10 by_ : Int) (h0 : 0 ≤ a0 ∧ a0 ≤ 255) (h1 : 0 ≤ a1 ∧ a1 ≤ 255) (h2 : I64 a2) (h3 : I64 a3) (h4 : 0 ≤ a4 ∧ a4 < 4294967296) (h5 : I64 a5) (h6 : I64 a6) (h7 : I64 a7) (h8 : I64 a8) (h9 : I64 a9) (h10 : I64 a10) (hb : -2147483648 ≤ by_ ∧ by_ ≤ 2147483647) :
    flashlocklaw39_ReplyBack.j0 100 by_ false a0 a1 a2 a3 a4 a5 a6 a7 a8 a9 a10 = some true := by
  have eb : wrap64 by_ = by_ := by unfold wrap64; omega
  have enb : wrap64 (-by_) = -by_ := by unfold wrap64; omega
  simp only [flashlocklaw39_ReplyBack.j0]
  rw [if_neg (by decide), put_v a0 a1 a2 a3 a4 a5 a6 a7 a8 a9 a10 h2 h3 h4 h5 h6 h7 h8 h9 h10 99 (by decide), Option.bind_some, get_v a0 a1 a2 a3 a4 a5 a6 a7 a8 a9 a10 h0 h1 h2 h3 h4 h5 h6 h7 h8 h9 h10, Option.bind_some]
  simp only [beq_self_eq_true, Bool.not_true, Bool.or_self, if_true]
  simp only [flashlocklaw39_ReplyBack.j1]
  rw [if_neg (by decide), eb]
  by_cases hv : 1 ≤ a2 ∧ a2 ≤ 2147483648
  · rw [shift_far a0 a1 a2 a3 a4 a5 a6 a7 a8 a9 a10 h0 h1 h2 h3 h4 h5 h6 h7 h8 h9 h10 98 (by decide) by_ hv (by omega), Option.bind_some, get_v a0 a1 (a2 + by_) a3 a4 a5 a6 a7 a8 a9 a10 h0 h1 ⟨by omega, by omega⟩ h3 h4 h5 h6 h7 h8 h9 h10, Option.bind_some]
    simp only
    rw [if_pos trivial, if_neg (by omega), show decide (a2 > 2147483648) = false from decide_eq_false (by omega)]
    simp only [flashlocklaw39_ReplyBack.j2]
    have ew : wrap64 (a2 + by_) = a2 + by_ := by unfold wrap64; omega
    rw [if_neg (by decide), eb, if_pos ew.symm, lives_v 97 (by decide), Option.bind_some]
    by_cases c1 : a2 + by_ < 1
    · rw [if_pos c1]
    · rw [if_neg c1]
      by_cases c2 : a2 + by_ > 2147483648
      · rw [if_pos c2]
      · rw [if_neg c2, enb, shift_far a0 a1 (a2 + by_) a3 a4 a5 a6 a7 a8 a9 a10 h0 h1 ⟨by omega, by omega⟩ h3 h4 h5 h6 h7 h8 h9 h10 97 (by decide) (-by_) (by omega) (by omega), Option.bind_some, show a2 + by_ + -by_ = a2 from by omega, if_pos rfl]
  · rw [shift_same a0 a1 a2 a3 a4 a5 a6 a7 a8 a9 a10 h0 h1 h2 h3 h4 h5 h6 h7 h8 h9 h10 98 by_ (by omega), Option.bind_some, get_v a0 a1 a2 a3 a4 a5 a6 a7 a8 a9 a10 h0 h1 h2 h3 h4 h5 h6 h7 h8 h9 h10, Option.bind_some]
    simp only
    rw [if_pos trivial]
    by_cases c : a2 < 1
    · rw [if_pos c]
      simp only [flashlocklaw39_ReplyBack.j2]
      rw [if_pos trivial, if_pos trivial, lives_v 97 (by decide), Option.bind_some]
    · rw [if_neg c, show decide (a2 > 2147483648) = true from decide_eq_true (by omega)]
      simp only [flashlocklaw39_ReplyBack.j2]
      rw [if_pos trivial, if_pos trivial, lives_v 97 (by decide), Option.bind_some]
theorem ReplyBack : ∀ (a0_0 : Int) (a0_1 : Int) (a0_2 : Int) (a0_3 : Int) (a0_4 : Int) (a0_5 : Int) (a0_6 : Int) (a0_7 : Int) (a0_8 : Int) (a0_9 : Int) (a0_10 : Int) (a1 : Int), (Lit.int .i64 a0_0).wf = true → (Lit.int .i64 a0_1).wf = true → (Lit.int .i64 a0_2).wf = true → (Lit.int .i64 a0_3).wf = true → (Lit.int .u32 a0_4).wf = true → (Lit.int .i64 a0_5).wf = true → (Lit.int .i64 a0_6).wf = true → (Lit.int .i64 a0_7).wf = true → (Lit.int .i64 a0_8).wf = true → (Lit.int .i64 a0_9).wf = true → (Lit.int .i64 a0_10).wf = true → (Lit.int .i32 a1).wf = true → ∃ k, flashlocklaw39_ReplyBack.f k a0_0 a0_1 a0_2 a0_3 a0_4 a0_5 a0_6 a0_7 a0_8 a0_9 a0_10 a1 = some true := by
  intro a0 a1 a2 a3 a4 a5 a6 a7 a8 a9 a10 by_ h0 h1 h2 h3 h4 h5 h6 h7 h8 h9 h10 hb
  have h2 : I64 a2 := bounds_i64 h2; have h3 : I64 a3 := bounds_i64 h3; have h5 : I64 a5 := bounds_i64 h5; have h6 : I64 a6 := bounds_i64 h6
  have h7 : I64 a7 := bounds_i64 h7; have h8 : I64 a8 := bounds_i64 h8; have h9 : I64 a9 := bounds_i64 h9; have h10 : I64 a10 := bounds_i64 h10; have h4 := bounds_u32 h4; have hb := bounds_i32 hb
  have hl : flashlocklaw39_ReplyBack.j0 100 by_ true a0 a1 a2 a3 a4 a5 a6 a7 a8 a9 a10 = some true := by
    simp only [flashlocklaw39_ReplyBack.j0]
    rw [if_pos trivial, lives_v 99 (by decide), Option.bind_some]
  refine ⟨100, ?_⟩
  unfold flashlocklaw39_ReplyBack.f
  by_cases c0 : a0 < 0
  · rw [if_pos c0, hl]
  · rw [if_neg c0]
    by_cases c1 : a0 > 255
    · rw [if_pos c1, hl]
    · rw [if_neg c1]
      by_cases c2 : a1 < 0
      · rw [if_pos c2, hl]
      · rw [if_neg c2]
        by_cases c3 : a1 > 255
        · rw [show decide (a1 > 255) = true from decide_eq_true c3, hl]
        · rw [show decide (a1 > 255) = false from decide_eq_false c3]
          exact back a0 a1 a2 a3 a4 a5 a6 a7 a8 a9 a10 by_ (by omega) (by omega) h2 h3 (by omega) h5 h6 h7 h8 h9 h10 (by omega)
end Go.Proofs.Ytlnnghbbjbimoaa.Pure
