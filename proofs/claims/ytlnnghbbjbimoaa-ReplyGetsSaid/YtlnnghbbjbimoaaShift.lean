/- reply.Shift, walked by its ways. -/
import Derived.Test.YtlnnghbbjbimoaaReplyGet
import Derived.Test.YtlnnghbbjbimoaaPGx2
import Derived.Test.YtlnnghbbjbimoaaPGx1
namespace Go.Proofs.Ytlnnghbbjbimoaa.Shift
open Go Go.RowKit Go.Proofs.Ytlnnghbbjbimoaa.PG Go.Proofs.Ytlnnghbbjbimoaa.Reader Go.Proofs.Ytlnnghbbjbimoaa.ReplyGet Go.Proofs.YtlnnghbbjbimoaaW.PrintWords Go.Proofs.YtlnnghbbjbimoaaW.PrintLast Go.Proofs.YtlnnghbbjbimoaaW.PrintMore
set_option linter.unusedVariables false
set_option linter.unusedSimpArgs false
attribute [local go_sem high] eqA94
set_option maxRecDepth 100000 in
set_option maxHeartbeats 400000 in
theorem same0 (k : Nat) (s r : ByteArray) (a1 r0 r1 r2 r3 r4 r5 r6 r7 r8 r9 r10 er : Int) (w : World)
    (hget : ∀ w, Calls Try.prog 68 #[.string s] w fun e w' => e = .returned (.tuple #[.agg #[.int .i64 r0, .int .i64 r1, .int .i64 r2, .int .i64 r3, .int .u32 r4, .int .i64 r5, .int .i64 r6, .int .i64 r7, .int .i64 r8, .int .i64 r9, .int .i64 r10], .int .i64 er]) ∧ Below w.heap.size w w') (h0 : (er != 0) = true) :
    Calls Try.prog 71 #[.string s, .int .i64 a1] w fun e w' => e = .returned (.string s) ∧ Below w.heap.size w w' := by
  have HG := Lib.hid hget; clear hget
  go_enter Try.func71, Try.ntmps71
  go_wp2_with (first | (go_at_call 68; refine (HG.out _).mono ?_; rintro e w1 ⟨rfl, hb1⟩; have B1 := Lib.hid hb1; clear hb1))
  go_ret
  exact ⟨rfl, by first | exact B1.out | exact B1.out.alloc B1.out.size _⟩
set_option maxRecDepth 100000 in
set_option maxHeartbeats 400000 in
theorem same1 (k : Nat) (s r : ByteArray) (a1 r0 r1 r2 r3 r4 r5 r6 r7 r8 r9 r10 er : Int) (w : World)
    (hget : ∀ w, Calls Try.prog 68 #[.string s] w fun e w' => e = .returned (.tuple #[.agg #[.int .i64 r0, .int .i64 r1, .int .i64 r2, .int .i64 r3, .int .u32 r4, .int .i64 r5, .int .i64 r6, .int .i64 r7, .int .i64 r8, .int .i64 r9, .int .i64 r10], .int .i64 er]) ∧ Below w.heap.size w w') (h0 : (er != 0) = false) (h1 : (r0 == 0 && (r1 == 0 && (r2 == 0 && (r3 == 0 && (r4 == 0 && ((r5 == 0 && (r6 == 0 && (r7 == 0 && (r8 == 0 && (r9 == 0 && (r10 == 0)))))))))))) = true) :
    Calls Try.prog 71 #[.string s, .int .i64 a1] w fun e w' => e = .returned (.string s) ∧ Below w.heap.size w w' := by
  have HG := Lib.hid hget; clear hget
  go_enter Try.func71, Try.ntmps71
  go_wp2_with (first | (go_at_call 68; refine (HG.out _).mono ?_; rintro e w1 ⟨rfl, hb1⟩; have B1 := Lib.hid hb1; clear hb1))
  go_ret
  exact ⟨rfl, by first | exact B1.out | exact B1.out.alloc B1.out.size _⟩
set_option maxRecDepth 100000 in
set_option maxHeartbeats 400000 in
theorem same2 (k : Nat) (s r : ByteArray) (a1 r0 r1 r2 r3 r4 r5 r6 r7 r8 r9 r10 er : Int) (w : World)
    (hget : ∀ w, Calls Try.prog 68 #[.string s] w fun e w' => e = .returned (.tuple #[.agg #[.int .i64 r0, .int .i64 r1, .int .i64 r2, .int .i64 r3, .int .u32 r4, .int .i64 r5, .int .i64 r6, .int .i64 r7, .int .i64 r8, .int .i64 r9, .int .i64 r10], .int .i64 er]) ∧ Below w.heap.size w w') (h0 : (er != 0) = false) (h1 : (r0 == 0 && (r1 == 0 && (r2 == 0 && (r3 == 0 && (r4 == 0 && ((r5 == 0 && (r6 == 0 && (r7 == 0 && (r8 == 0 && (r9 == 0 && (r10 == 0)))))))))))) = false) (h2 : decide (r2 ≤ 0) = true) :
    Calls Try.prog 71 #[.string s, .int .i64 a1] w fun e w' => e = .returned (.string s) ∧ Below w.heap.size w w' := by
  have HG := Lib.hid hget; clear hget
  go_enter Try.func71, Try.ntmps71
  go_wp2_with (first | (go_at_call 68; refine (HG.out _).mono ?_; rintro e w1 ⟨rfl, hb1⟩; have B1 := Lib.hid hb1; clear hb1))
  go_ret
  exact ⟨rfl, by first | exact B1.out | exact B1.out.alloc B1.out.size _⟩
set_option maxRecDepth 100000 in
set_option maxHeartbeats 400000 in
theorem same3 (k : Nat) (s r : ByteArray) (a1 r0 r1 r2 r3 r4 r5 r6 r7 r8 r9 r10 er : Int) (w : World)
    (hget : ∀ w, Calls Try.prog 68 #[.string s] w fun e w' => e = .returned (.tuple #[.agg #[.int .i64 r0, .int .i64 r1, .int .i64 r2, .int .i64 r3, .int .u32 r4, .int .i64 r5, .int .i64 r6, .int .i64 r7, .int .i64 r8, .int .i64 r9, .int .i64 r10], .int .i64 er]) ∧ Below w.heap.size w w') (h0 : (er != 0) = false) (h1 : (r0 == 0 && (r1 == 0 && (r2 == 0 && (r3 == 0 && (r4 == 0 && ((r5 == 0 && (r6 == 0 && (r7 == 0 && (r8 == 0 && (r9 == 0 && (r10 == 0)))))))))))) = false) (h2 : decide (r2 ≤ 0) = false) (h3 : decide (2147483648 < r2) = true) :
    Calls Try.prog 71 #[.string s, .int .i64 a1] w fun e w' => e = .returned (.string s) ∧ Below w.heap.size w w' := by
  have HG := Lib.hid hget; clear hget
  go_enter Try.func71, Try.ntmps71
  go_wp2_with (first | (go_at_call 68; refine (HG.out _).mono ?_; rintro e w1 ⟨rfl, hb1⟩; have B1 := Lib.hid hb1; clear hb1))
  go_ret
  exact ⟨rfl, by first | exact B1.out | exact B1.out.alloc B1.out.size _⟩
set_option maxRecDepth 100000 in
set_option maxHeartbeats 400000 in
theorem same4 (k : Nat) (s r : ByteArray) (a1 r0 r1 r2 r3 r4 r5 r6 r7 r8 r9 r10 er : Int) (w : World)
    (hget : ∀ w, Calls Try.prog 68 #[.string s] w fun e w' => e = .returned (.tuple #[.agg #[.int .i64 r0, .int .i64 r1, .int .i64 r2, .int .i64 r3, .int .u32 r4, .int .i64 r5, .int .i64 r6, .int .i64 r7, .int .i64 r8, .int .i64 r9, .int .i64 r10], .int .i64 er]) ∧ Below w.heap.size w w') (h0 : (er != 0) = false) (h1 : (r0 == 0 && (r1 == 0 && (r2 == 0 && (r3 == 0 && (r4 == 0 && ((r5 == 0 && (r6 == 0 && (r7 == 0 && (r8 == 0 && (r9 == 0 && (r10 == 0)))))))))))) = false) (h2 : decide (r2 ≤ 0) = false) (h3 : decide (2147483648 < r2) = false) (h4 : decide (a1 < (-2147483648)) = true) :
    Calls Try.prog 71 #[.string s, .int .i64 a1] w fun e w' => e = .returned (.string s) ∧ Below w.heap.size w w' := by
  have HG := Lib.hid hget; clear hget
  go_enter Try.func71, Try.ntmps71
  go_wp2_with (first | (go_at_call 68; refine (HG.out _).mono ?_; rintro e w1 ⟨rfl, hb1⟩; have B1 := Lib.hid hb1; clear hb1))
  go_ret
  exact ⟨rfl, by first | exact B1.out | exact B1.out.alloc B1.out.size _⟩
set_option maxRecDepth 100000 in
set_option maxHeartbeats 400000 in
theorem same5 (k : Nat) (s r : ByteArray) (a1 r0 r1 r2 r3 r4 r5 r6 r7 r8 r9 r10 er : Int) (w : World)
    (hget : ∀ w, Calls Try.prog 68 #[.string s] w fun e w' => e = .returned (.tuple #[.agg #[.int .i64 r0, .int .i64 r1, .int .i64 r2, .int .i64 r3, .int .u32 r4, .int .i64 r5, .int .i64 r6, .int .i64 r7, .int .i64 r8, .int .i64 r9, .int .i64 r10], .int .i64 er]) ∧ Below w.heap.size w w') (h0 : (er != 0) = false) (h1 : (r0 == 0 && (r1 == 0 && (r2 == 0 && (r3 == 0 && (r4 == 0 && ((r5 == 0 && (r6 == 0 && (r7 == 0 && (r8 == 0 && (r9 == 0 && (r10 == 0)))))))))))) = false) (h2 : decide (r2 ≤ 0) = false) (h3 : decide (2147483648 < r2) = false) (h4 : decide (a1 < (-2147483648)) = false) (h5 : decide (2147483648 < a1) = true) :
    Calls Try.prog 71 #[.string s, .int .i64 a1] w fun e w' => e = .returned (.string s) ∧ Below w.heap.size w w' := by
  have HG := Lib.hid hget; clear hget
  go_enter Try.func71, Try.ntmps71
  go_wp2_with (first | (go_at_call 68; refine (HG.out _).mono ?_; rintro e w1 ⟨rfl, hb1⟩; have B1 := Lib.hid hb1; clear hb1))
  go_ret
  exact ⟨rfl, by first | exact B1.out | exact B1.out.alloc B1.out.size _⟩
set_option maxRecDepth 100000 in
set_option maxHeartbeats 400000 in
theorem shift (k : Nat) (s r : ByteArray) (a1 r0 r1 r2 r3 r4 r5 r6 r7 r8 r9 r10 er : Int) (w : World)
    (hget : ∀ w, Calls Try.prog 68 #[.string s] w fun e w' => e = .returned (.tuple #[.agg #[.int .i64 r0, .int .i64 r1, .int .i64 r2, .int .i64 r3, .int .u32 r4, .int .i64 r5, .int .i64 r6, .int .i64 r7, .int .i64 r8, .int .i64 r9, .int .i64 r10], .int .i64 er]) ∧ Below w.heap.size w w') (h0 : (er != 0) = false) (h1 : (r0 == 0 && (r1 == 0 && (r2 == 0 && (r3 == 0 && (r4 == 0 && ((r5 == 0 && (r6 == 0 && (r7 == 0 && (r8 == 0 && (r9 == 0 && (r10 == 0)))))))))))) = false) (h2 : decide (r2 ≤ 0) = false) (h3 : decide (2147483648 < r2) = false) (h4 : decide (a1 < (-2147483648)) = false) (h5 : decide (2147483648 < a1) = false) (hput : reply_Put.f k r0 r1 (wrap64 (r2 + a1)) r3 r4 r5 r6 r7 r8 r9 r10 = some r) :
    Calls Try.prog 71 #[.string s, .int .i64 a1] w fun e w' => e = .returned (.string r) ∧ Below w.heap.size w w' := by
  have HG := Lib.hid hget; clear hget
  have HP := Lib.hid hput; clear hput
  go_enter Try.func71, Try.ntmps71
  go_wp2_with (first | (go_at_call 68; refine (HG.out _).mono ?_; rintro e w1 ⟨rfl, hb1⟩; have B1 := Lib.hid hb1; clear hb1) | (go_at_call 72; refine (reply_Put.calls k r0 r1 (wrap64 (r2 + a1)) r3 r4 r5 r6 r7 r8 r9 r10 r _ HP.out).mono ?_; rintro e w2 ⟨rfl, hb2⟩; have B2 := Lib.hid hb2; clear hb2))
  go_ret
  exact ⟨rfl, (B1.out.alloc B1.out.size _).trans (B2.out.mono (by have := B1.out.size; simp; omega))⟩
/-- is it the reply of no numbers? -/
def nul (s : ByteArray) : Bool := (rv s 0 == 0 && (rv s 1 == 0 && (rv s 2 == 0 && (rv s 3 == 0 && (rv s 4 == 0 && ((rv s 5 == 0 && (rv s 6 == 0 && (rv s 7 == 0 && (rv s 8 == 0 && (rv s 9 == 0 && (rv s 10 == 0))))))))))))
/-- what reply.Shift answers -/
def sv (k : Nat) (s : ByteArray) (a1 : Int) : Option ByteArray :=
  if rg s ≠ 0 ∨ nul s = true ∨ rv s 2 ≤ 0 ∨ 2147483648 < rv s 2 ∨ a1 < -2147483648 ∨ 2147483648 < a1 then some s
  else reply_Put.f k (rv s 0) (rv s 1) (wrap64 (rv s 2 + a1)) (rv s 3) (rv s 4) (rv s 5) (rv s 6) (rv s 7) (rv s 8) (rv s 9) (rv s 10)
theorem shift_calls (k : Nat) (s r : ByteArray) (a1 : Int) (w : World) (hs : s.size < 4611686018427387904) (h : sv k s a1 = some r) :
    Calls Try.prog 71 #[.string s, .int .i64 a1] w fun e w' => e = .returned (.string r) ∧ Below w.heap.size w w' := by
  have hG := fun w => get_calls s w hs
  unfold sv at h
  by_cases c0 : rg s = 0
  · have d0 : (rg s != 0) = false := by simpa using c0
    cases c1 : nul s with
    | true =>
      rw [if_pos (.inr (.inl c1))] at h; obtain rfl := Option.some.inj h
      exact same1 k s s a1 (rv s 0) (rv s 1) (rv s 2) (rv s 3) (rv s 4) (rv s 5) (rv s 6) (rv s 7) (rv s 8) (rv s 9) (rv s 10) (rg s) w hG d0 c1
    | false =>
      by_cases c2 : rv s 2 ≤ 0
      · rw [if_pos (.inr (.inr (.inl c2)))] at h; obtain rfl := Option.some.inj h
        exact same2 k s s a1 (rv s 0) (rv s 1) (rv s 2) (rv s 3) (rv s 4) (rv s 5) (rv s 6) (rv s 7) (rv s 8) (rv s 9) (rv s 10) (rg s) w hG d0 c1 (decide_eq_true c2)
      · by_cases c3 : 2147483648 < rv s 2
        · rw [if_pos (.inr (.inr (.inr (.inl c3))))] at h; obtain rfl := Option.some.inj h
          exact same3 k s s a1 (rv s 0) (rv s 1) (rv s 2) (rv s 3) (rv s 4) (rv s 5) (rv s 6) (rv s 7) (rv s 8) (rv s 9) (rv s 10) (rg s) w hG d0 c1 (decide_eq_false c2) (decide_eq_true c3)
        · by_cases c4 : a1 < -2147483648
          · rw [if_pos (.inr (.inr (.inr (.inr (.inl c4)))))] at h; obtain rfl := Option.some.inj h
            exact same4 k s s a1 (rv s 0) (rv s 1) (rv s 2) (rv s 3) (rv s 4) (rv s 5) (rv s 6) (rv s 7) (rv s 8) (rv s 9) (rv s 10) (rg s) w hG d0 c1 (decide_eq_false c2) (decide_eq_false c3) (decide_eq_true c4)
          · by_cases c5 : 2147483648 < a1
            · rw [if_pos (.inr (.inr (.inr (.inr (.inr c5)))))] at h; obtain rfl := Option.some.inj h
              exact same5 k s s a1 (rv s 0) (rv s 1) (rv s 2) (rv s 3) (rv s 4) (rv s 5) (rv s 6) (rv s 7) (rv s 8) (rv s 9) (rv s 10) (rg s) w hG d0 c1 (decide_eq_false c2) (decide_eq_false c3) (decide_eq_false c4) (decide_eq_true c5)
            · rw [if_neg (by rw [c1]; simp; exact ⟨c0, by omega, by omega, by omega, by omega⟩)] at h
              exact shift k s r a1 (rv s 0) (rv s 1) (rv s 2) (rv s 3) (rv s 4) (rv s 5) (rv s 6) (rv s 7) (rv s 8) (rv s 9) (rv s 10) (rg s) w hG d0 c1 (decide_eq_false c2) (decide_eq_false c3) (decide_eq_false c4) (decide_eq_false c5) h
  · rw [if_pos (.inl c0)] at h; obtain rfl := Option.some.inj h
    exact same0 k s s a1 (rv s 0) (rv s 1) (rv s 2) (rv s 3) (rv s 4) (rv s 5) (rv s 6) (rv s 7) (rv s 8) (rv s 9) (rv s 10) (rg s) w hG (by simpa using c0)
end Go.Proofs.Ytlnnghbbjbimoaa.Shift
