-- written by wip/tools/pr.py over the kit's print.py, out of the translation; Lean checks it
import Derived.Test.YtlnnghbbjbimoaaPFx0
import Derived.Test.YtlnnghbbjbimoaaPFx3
namespace Go.Proofs.Ytlnnghbbjbimoaa.PF
open Go.RowKit Go.Proofs.YtlnnghbbjbimoaaW.PrintWords Go.Proofs.YtlnnghbbjbimoaaW.PrintLast Go.Proofs.YtlnnghbbjbimoaaW.PrintMore
attribute [local go_sem] max2_int min2_int max_two min_two max_three min_three max_four min_four   -- for this text's walks alone
set_option linter.unusedVariables false
set_option linter.unusedSimpArgs false

/-! ### filter_Right: function 33 -/
def filter_Right.q7 (a0_0 : Int) (a0_1 : Int) (a0_2 : Int) (a0_3 : Int) (a0_4 : Int) (a0_5 : Int) (a0_6 : Int) (a0_7 : Int) (a0_8 : Int) (a0_9 : Int) (a0_10 : Int) (a0_11 : Int) (a0_12 : Int) (a0_13 : Int) (a0_14 : Int) : Option Int := some 0
def filter_Right.q6 (a0_0 : Int) (a0_1 : Int) (a0_2 : Int) (a0_3 : Int) (a0_4 : Int) (a0_5 : Int) (a0_6 : Int) (a0_7 : Int) (a0_8 : Int) (a0_9 : Int) (a0_10 : Int) (a0_11 : Int) (a0_12 : Int) (a0_13 : Int) (a0_14 : Int) : Option Int := (filter_questions_7.f a0_0 a0_1 a0_2 a0_3 a0_4 a0_5 a0_6 a0_7 a0_8 a0_9 a0_10 a0_11 a0_12 a0_13 a0_14).bind fun b => (if b = true then (filter_Right.q7 a0_0 a0_1 a0_2 a0_3 a0_4 a0_5 a0_6 a0_7 a0_8 a0_9 a0_10 a0_11 a0_12 a0_13 a0_14) else (some 15))
def filter_Right.q5 (a0_0 : Int) (a0_1 : Int) (a0_2 : Int) (a0_3 : Int) (a0_4 : Int) (a0_5 : Int) (a0_6 : Int) (a0_7 : Int) (a0_8 : Int) (a0_9 : Int) (a0_10 : Int) (a0_11 : Int) (a0_12 : Int) (a0_13 : Int) (a0_14 : Int) : Option Int := (filter_questions_6.f a0_0 a0_1 a0_2 a0_3 a0_4 a0_5 a0_6 a0_7 a0_8 a0_9 a0_10 a0_11 a0_12 a0_13 a0_14).bind fun b => (if b = true then (filter_Right.q6 a0_0 a0_1 a0_2 a0_3 a0_4 a0_5 a0_6 a0_7 a0_8 a0_9 a0_10 a0_11 a0_12 a0_13 a0_14) else (some 6))
def filter_Right.q4 (a0_0 : Int) (a0_1 : Int) (a0_2 : Int) (a0_3 : Int) (a0_4 : Int) (a0_5 : Int) (a0_6 : Int) (a0_7 : Int) (a0_8 : Int) (a0_9 : Int) (a0_10 : Int) (a0_11 : Int) (a0_12 : Int) (a0_13 : Int) (a0_14 : Int) : Option Int := (filter_questions_5.f a0_0 a0_1 a0_2 a0_3 a0_4 a0_5 a0_6 a0_7 a0_8 a0_9 a0_10 a0_11 a0_12 a0_13 a0_14).bind fun b => (if b = true then (filter_Right.q5 a0_0 a0_1 a0_2 a0_3 a0_4 a0_5 a0_6 a0_7 a0_8 a0_9 a0_10 a0_11 a0_12 a0_13 a0_14) else (some 7))
def filter_Right.q3 (a0_0 : Int) (a0_1 : Int) (a0_2 : Int) (a0_3 : Int) (a0_4 : Int) (a0_5 : Int) (a0_6 : Int) (a0_7 : Int) (a0_8 : Int) (a0_9 : Int) (a0_10 : Int) (a0_11 : Int) (a0_12 : Int) (a0_13 : Int) (a0_14 : Int) : Option Int := (filter_questions_4.f a0_0 a0_1 a0_2 a0_3 a0_4 a0_5 a0_6 a0_7 a0_8 a0_9 a0_10 a0_11 a0_12 a0_13 a0_14).bind fun b => (if b = true then (filter_Right.q4 a0_0 a0_1 a0_2 a0_3 a0_4 a0_5 a0_6 a0_7 a0_8 a0_9 a0_10 a0_11 a0_12 a0_13 a0_14) else (some 6))
def filter_Right.q2 (a0_0 : Int) (a0_1 : Int) (a0_2 : Int) (a0_3 : Int) (a0_4 : Int) (a0_5 : Int) (a0_6 : Int) (a0_7 : Int) (a0_8 : Int) (a0_9 : Int) (a0_10 : Int) (a0_11 : Int) (a0_12 : Int) (a0_13 : Int) (a0_14 : Int) : Option Int := (filter_questions_3.f a0_0 a0_1 a0_2 a0_3 a0_4 a0_5 a0_6 a0_7 a0_8 a0_9 a0_10 a0_11 a0_12 a0_13 a0_14).bind fun b => (if b = true then (filter_Right.q3 a0_0 a0_1 a0_2 a0_3 a0_4 a0_5 a0_6 a0_7 a0_8 a0_9 a0_10 a0_11 a0_12 a0_13 a0_14) else (some 22))
def filter_Right.q1 (a0_0 : Int) (a0_1 : Int) (a0_2 : Int) (a0_3 : Int) (a0_4 : Int) (a0_5 : Int) (a0_6 : Int) (a0_7 : Int) (a0_8 : Int) (a0_9 : Int) (a0_10 : Int) (a0_11 : Int) (a0_12 : Int) (a0_13 : Int) (a0_14 : Int) : Option Int := (filter_questions_2.f a0_0 a0_1 a0_2 a0_3 a0_4 a0_5 a0_6 a0_7 a0_8 a0_9 a0_10 a0_11 a0_12 a0_13 a0_14).bind fun b => (if b = true then (filter_Right.q2 a0_0 a0_1 a0_2 a0_3 a0_4 a0_5 a0_6 a0_7 a0_8 a0_9 a0_10 a0_11 a0_12 a0_13 a0_14) else (some 14))
def filter_Right.q0 (a0_0 : Int) (a0_1 : Int) (a0_2 : Int) (a0_3 : Int) (a0_4 : Int) (a0_5 : Int) (a0_6 : Int) (a0_7 : Int) (a0_8 : Int) (a0_9 : Int) (a0_10 : Int) (a0_11 : Int) (a0_12 : Int) (a0_13 : Int) (a0_14 : Int) : Option Int := (filter_questions_1.f a0_0 a0_1 a0_2 a0_3 a0_4 a0_5 a0_6 a0_7 a0_8 a0_9 a0_10 a0_11 a0_12 a0_13 a0_14).bind fun b => (if b = true then (filter_Right.q1 a0_0 a0_1 a0_2 a0_3 a0_4 a0_5 a0_6 a0_7 a0_8 a0_9 a0_10 a0_11 a0_12 a0_13 a0_14) else (some 2))
def filter_Right.f (a0_0 : Int) (a0_1 : Int) (a0_2 : Int) (a0_3 : Int) (a0_4 : Int) (a0_5 : Int) (a0_6 : Int) (a0_7 : Int) (a0_8 : Int) (a0_9 : Int) (a0_10 : Int) (a0_11 : Int) (a0_12 : Int) (a0_13 : Int) (a0_14 : Int) : Option Int := filter_Right.q0 a0_0 a0_1 a0_2 a0_3 a0_4 a0_5 a0_6 a0_7 a0_8 a0_9 a0_10 a0_11 a0_12 a0_13 a0_14
def filter_Right.at (i : Nat) (a0_0 : Int) (a0_1 : Int) (a0_2 : Int) (a0_3 : Int) (a0_4 : Int) (a0_5 : Int) (a0_6 : Int) (a0_7 : Int) (a0_8 : Int) (a0_9 : Int) (a0_10 : Int) (a0_11 : Int) (a0_12 : Int) (a0_13 : Int) (a0_14 : Int) (r : Int) : Prop := match i with
  | 0 => filter_Right.q0 a0_0 a0_1 a0_2 a0_3 a0_4 a0_5 a0_6 a0_7 a0_8 a0_9 a0_10 a0_11 a0_12 a0_13 a0_14 = some r
  | 1 => filter_Right.q1 a0_0 a0_1 a0_2 a0_3 a0_4 a0_5 a0_6 a0_7 a0_8 a0_9 a0_10 a0_11 a0_12 a0_13 a0_14 = some r
  | 2 => filter_Right.q2 a0_0 a0_1 a0_2 a0_3 a0_4 a0_5 a0_6 a0_7 a0_8 a0_9 a0_10 a0_11 a0_12 a0_13 a0_14 = some r
  | 3 => filter_Right.q3 a0_0 a0_1 a0_2 a0_3 a0_4 a0_5 a0_6 a0_7 a0_8 a0_9 a0_10 a0_11 a0_12 a0_13 a0_14 = some r
  | 4 => filter_Right.q4 a0_0 a0_1 a0_2 a0_3 a0_4 a0_5 a0_6 a0_7 a0_8 a0_9 a0_10 a0_11 a0_12 a0_13 a0_14 = some r
  | 5 => filter_Right.q5 a0_0 a0_1 a0_2 a0_3 a0_4 a0_5 a0_6 a0_7 a0_8 a0_9 a0_10 a0_11 a0_12 a0_13 a0_14 = some r
  | 6 => filter_Right.q6 a0_0 a0_1 a0_2 a0_3 a0_4 a0_5 a0_6 a0_7 a0_8 a0_9 a0_10 a0_11 a0_12 a0_13 a0_14 = some r
  | _ => (0 : Int) = r
set_option maxRecDepth 100000 in
set_option maxHeartbeats 4000000 in
theorem filter_Right.calls (a0_0 : Int) (a0_1 : Int) (a0_2 : Int) (a0_3 : Int) (a0_4 : Int) (a0_5 : Int) (a0_6 : Int) (a0_7 : Int) (a0_8 : Int) (a0_9 : Int) (a0_10 : Int) (a0_11 : Int) (a0_12 : Int) (a0_13 : Int) (a0_14 : Int) (r : Int) (w : World) (h : filter_Right.f a0_0 a0_1 a0_2 a0_3 a0_4 a0_5 a0_6 a0_7 a0_8 a0_9 a0_10 a0_11 a0_12 a0_13 a0_14 = some r) :
    Calls Try.prog 33 #[.agg #[.int .i64 a0_0, .int .i64 a0_1, .int .i64 a0_2, .int .u64 a0_3, .int .u64 a0_4, .int .u64 a0_5, .int .u64 a0_6, .int .i64 a0_7, .int .i64 a0_8, .int .i64 a0_9, .int .i64 a0_10, .int .i64 a0_11, .int .i64 a0_12, .int .i64 a0_13, .int .i64 a0_14]] w fun e w' => e = .returned (.int .i64 r) ∧ Below w.heap.size w w' := by
  have HA : Hid (filter_Right.at 0 a0_0 a0_1 a0_2 a0_3 a0_4 a0_5 a0_6 a0_7 a0_8 a0_9 a0_10 a0_11 a0_12 a0_13 a0_14 r) := Lib.hid h
  clear h
  go_enter Try.func33, Try.ntmps33
  go_wp2_with (first | (go_at_call 96; refine (Go.Proofs.Ytlnnghbbjbimoaa.FilterQ.questions_calls _).mono ?_; rintro e w' ⟨rfl, rfl⟩))
  go_loopg [7] 7 (fun k i wr => ∃ i' : Nat, i' ≤ 7 ∧ Hid (i' + k = 7) ∧ i = .int .i64 i' ∧ Hid (filter_Right.at i' a0_0 a0_1 a0_2 a0_3 a0_4 a0_5 a0_6 a0_7 a0_8 a0_9 a0_10 a0_11 a0_12 a0_13 a0_14 r) ∧ Hid (wr.heap[w.heap.size]? = some (.cells #[.int .i64 a0_0, .int .i64 a0_1, .int .i64 a0_2, .int .u64 a0_3, .int .u64 a0_4, .int .u64 a0_5, .int .u64 a0_6, .int .i64 a0_7, .int .i64 a0_8, .int .i64 a0_9, .int .i64 a0_10, .int .i64 a0_11, .int .i64 a0_12, .int .i64 a0_13, .int .i64 a0_14] 44 (0, 0))) ∧ Hid (wr.heap[w.heap.size + 1]? = some (.cells #[.int .i64 2, .func (Fn.func 130) #[] #[], .int .i64 14, .func (Fn.func 131) #[] #[], .int .i64 22, .func (Fn.func 132) #[] #[], .int .i64 6, .func (Fn.func 133) #[] #[], .int .i64 7, .func (Fn.func 135) #[] #[], .int .i64 6, .func (Fn.func 136) #[] #[], .int .i64 15, .func (Fn.func 138) #[] #[]] 130 (0, 0))) ∧ Hid (Below w.heap.size w wr))
  case atStart => exact ⟨0, by omega, Lib.hid rfl, rfl, HA, Lib.hid (blk_alloc (blk_new w _) _), Lib.hid (by have := blk_new (w.alloc (.cells #[.int .i64 a0_0, .int .i64 a0_1, .int .i64 a0_2, .int .u64 a0_3, .int .u64 a0_4, .int .u64 a0_5, .int .u64 a0_6, .int .i64 a0_7, .int .i64 a0_8, .int .i64 a0_9, .int .i64 a0_10, .int .i64 a0_11, .int .i64 a0_12, .int .i64 a0_13, .int .i64 a0_14] 44)) (.cells #[.int .i64 2, .func (Fn.func 130) #[] #[], .int .i64 14, .func (Fn.func 131) #[] #[], .int .i64 22, .func (Fn.func 132) #[] #[], .int .i64 6, .func (Fn.func 133) #[] #[], .int .i64 7, .func (Fn.func 135) #[] #[], .int .i64 6, .func (Fn.func 136) #[] #[], .int .i64 15, .func (Fn.func 138) #[] #[]] 130); simpa using this), Lib.hid (((Below.refl _ _).alloc (Nat.le_refl _) _).alloc (by simp) _)⟩
  case round =>
    obtain ⟨i', hi, HI, rfl, HAT, HBF, HBQ, HB⟩ := hrel
    have hsz : w.heap.size + 1 < wr.heap.size := blk_lt HBQ.out
    have hsz0 : w.heap.size < wr.heap.size := blk_lt HBF.out
    have hne0 : ¬ w.heap.size = wr.heap.size := by omega
    have hne1 : ¬ w.heap.size + 1 = wr.heap.size := by omega
    have cf0 : wr.cell? ⟨w.heap.size, 0, none⟩ = some (.int .i64 a0_0) := (blk_cell (HBF.out) 0).trans rfl
    have cf1 : wr.cell? ⟨w.heap.size, 1, none⟩ = some (.int .i64 a0_1) := (blk_cell (HBF.out) 1).trans rfl
    have cf2 : wr.cell? ⟨w.heap.size, 2, none⟩ = some (.int .i64 a0_2) := (blk_cell (HBF.out) 2).trans rfl
    have cf3 : wr.cell? ⟨w.heap.size, 3, none⟩ = some (.int .u64 a0_3) := (blk_cell (HBF.out) 3).trans rfl
    have cf4 : wr.cell? ⟨w.heap.size, 4, none⟩ = some (.int .u64 a0_4) := (blk_cell (HBF.out) 4).trans rfl
    have cf5 : wr.cell? ⟨w.heap.size, 5, none⟩ = some (.int .u64 a0_5) := (blk_cell (HBF.out) 5).trans rfl
    have cf6 : wr.cell? ⟨w.heap.size, 6, none⟩ = some (.int .u64 a0_6) := (blk_cell (HBF.out) 6).trans rfl
    have cf7 : wr.cell? ⟨w.heap.size, 7, none⟩ = some (.int .i64 a0_7) := (blk_cell (HBF.out) 7).trans rfl
    have cf8 : wr.cell? ⟨w.heap.size, 8, none⟩ = some (.int .i64 a0_8) := (blk_cell (HBF.out) 8).trans rfl
    have cf9 : wr.cell? ⟨w.heap.size, 9, none⟩ = some (.int .i64 a0_9) := (blk_cell (HBF.out) 9).trans rfl
    have cf10 : wr.cell? ⟨w.heap.size, 10, none⟩ = some (.int .i64 a0_10) := (blk_cell (HBF.out) 10).trans rfl
    have cf11 : wr.cell? ⟨w.heap.size, 11, none⟩ = some (.int .i64 a0_11) := (blk_cell (HBF.out) 11).trans rfl
    have cf12 : wr.cell? ⟨w.heap.size, 12, none⟩ = some (.int .i64 a0_12) := (blk_cell (HBF.out) 12).trans rfl
    have cf13 : wr.cell? ⟨w.heap.size, 13, none⟩ = some (.int .i64 a0_13) := (blk_cell (HBF.out) 13).trans rfl
    have cf14 : wr.cell? ⟨w.heap.size, 14, none⟩ = some (.int .i64 a0_14) := (blk_cell (HBF.out) 14).trans rfl
    rcases Nat.lt_or_ge i' 7 with hlt | hge
    · obtain rfl | rfl | rfl | rfl | rfl | rfl | rfl : i' = 0 ∨ i' = 1 ∨ i' = 2 ∨ i' = 3 ∨ i' = 4 ∨ i' = 5 ∨ i' = 6 := by omega
      · have q0 : wr.cell? ⟨w.heap.size + 1, 0, none⟩ = some (.int .i64 2) := (blk_cell (HBQ.out) 0).trans rfl
        have q1 : wr.cell? ⟨w.heap.size + 1, 1, none⟩ = some (.func (Fn.func 130) #[] #[]) := (blk_cell (HBQ.out) 1).trans rfl
        have hat : filter_Right.q0 a0_0 a0_1 a0_2 a0_3 a0_4 a0_5 a0_6 a0_7 a0_8 a0_9 a0_10 a0_11 a0_12 a0_13 a0_14 = some r := HAT.out
        unfold filter_Right.q0 at hat
        obtain ⟨b, hb, hat⟩ := Option.bind_eq_some_iff.1 hat
        have HC := fun w => Lib.hid (filter_questions_1.calls a0_0 a0_1 a0_2 a0_3 a0_4 a0_5 a0_6 a0_7 a0_8 a0_9 a0_10 a0_11 a0_12 a0_13 a0_14 b w hb)
        clear hb
        cases b
        · have hr : (2 : Int) = r := by simpa using hat
          subst hr; clear hat
          go_wp2_with (first | (go_at_call 130; refine (HC _).out.mono ?_; rintro e w1 ⟨rfl, hb1⟩; have c0' : w1.cell? ⟨wr.heap.size, 0, none⟩ = some (.int .i64 2) := pw_cell_below hb1 ((blk_cell (blk_new wr (.cells #[.int .i64 2, .func (Fn.func 130) #[] #[]] 130)) 0).trans rfl); have HB1 := Lib.hid hb1; clear hb1))
          go_ret
          exact ⟨rfl, (HB.out.alloc HB.out.size _).trans (HB1.out.mono (Nat.le_trans HB.out.size (by simp)))⟩
        · have hat' : filter_Right.q1 a0_0 a0_1 a0_2 a0_3 a0_4 a0_5 a0_6 a0_7 a0_8 a0_9 a0_10 a0_11 a0_12 a0_13 a0_14 = some r := by simpa using hat
          clear hat
          have HAT' : Hid (filter_Right.at 1 a0_0 a0_1 a0_2 a0_3 a0_4 a0_5 a0_6 a0_7 a0_8 a0_9 a0_10 a0_11 a0_12 a0_13 a0_14 r) := Lib.hid (by first | exact hat' | (have := hat'; unfold filter_Right.q7 at this; exact Option.some.inj this))
          go_wp2_with (first | (go_at_call 130; refine (HC _).out.mono ?_; rintro e w1 ⟨rfl, hb1⟩; have c0' : w1.cell? ⟨wr.heap.size, 0, none⟩ = some (.int .i64 2) := pw_cell_below hb1 ((blk_cell (blk_new wr (.cells #[.int .i64 2, .func (Fn.func 130) #[] #[]] 130)) 0).trans rfl); have HB1 := Lib.hid hb1; clear hb1))
          go_roundg (6)
          case measure => have := HI.out; omega
          case rel => exact ⟨1, by omega, Lib.hid (by omega), rfl, HAT', Lib.hid (blk_below (blk_alloc HBF.out _) HB1.out), Lib.hid (blk_below (blk_alloc HBQ.out _) HB1.out), Lib.hid ((HB.out.alloc HB.out.size _).trans (HB1.out.mono (Nat.le_trans HB.out.size (by simp))))⟩
      · have q0 : wr.cell? ⟨w.heap.size + 1, 2, none⟩ = some (.int .i64 14) := (blk_cell (HBQ.out) 2).trans rfl
        have q1 : wr.cell? ⟨w.heap.size + 1, 3, none⟩ = some (.func (Fn.func 131) #[] #[]) := (blk_cell (HBQ.out) 3).trans rfl
        have hat : filter_Right.q1 a0_0 a0_1 a0_2 a0_3 a0_4 a0_5 a0_6 a0_7 a0_8 a0_9 a0_10 a0_11 a0_12 a0_13 a0_14 = some r := HAT.out
        unfold filter_Right.q1 at hat
        obtain ⟨b, hb, hat⟩ := Option.bind_eq_some_iff.1 hat
        have HC := fun w => Lib.hid (filter_questions_2.calls a0_0 a0_1 a0_2 a0_3 a0_4 a0_5 a0_6 a0_7 a0_8 a0_9 a0_10 a0_11 a0_12 a0_13 a0_14 b w hb)
        clear hb
        cases b
        · have hr : (14 : Int) = r := by simpa using hat
          subst hr; clear hat
          go_wp2_with (first | (go_at_call 131; refine (HC _).out.mono ?_; rintro e w1 ⟨rfl, hb1⟩; have c0' : w1.cell? ⟨wr.heap.size, 0, none⟩ = some (.int .i64 14) := pw_cell_below hb1 ((blk_cell (blk_new wr (.cells #[.int .i64 14, .func (Fn.func 131) #[] #[]] 130)) 0).trans rfl); have HB1 := Lib.hid hb1; clear hb1))
          go_ret
          exact ⟨rfl, (HB.out.alloc HB.out.size _).trans (HB1.out.mono (Nat.le_trans HB.out.size (by simp)))⟩
        · have hat' : filter_Right.q2 a0_0 a0_1 a0_2 a0_3 a0_4 a0_5 a0_6 a0_7 a0_8 a0_9 a0_10 a0_11 a0_12 a0_13 a0_14 = some r := by simpa using hat
          clear hat
          have HAT' : Hid (filter_Right.at 2 a0_0 a0_1 a0_2 a0_3 a0_4 a0_5 a0_6 a0_7 a0_8 a0_9 a0_10 a0_11 a0_12 a0_13 a0_14 r) := Lib.hid (by first | exact hat' | (have := hat'; unfold filter_Right.q7 at this; exact Option.some.inj this))
          go_wp2_with (first | (go_at_call 131; refine (HC _).out.mono ?_; rintro e w1 ⟨rfl, hb1⟩; have c0' : w1.cell? ⟨wr.heap.size, 0, none⟩ = some (.int .i64 14) := pw_cell_below hb1 ((blk_cell (blk_new wr (.cells #[.int .i64 14, .func (Fn.func 131) #[] #[]] 130)) 0).trans rfl); have HB1 := Lib.hid hb1; clear hb1))
          go_roundg (5)
          case measure => have := HI.out; omega
          case rel => exact ⟨2, by omega, Lib.hid (by omega), rfl, HAT', Lib.hid (blk_below (blk_alloc HBF.out _) HB1.out), Lib.hid (blk_below (blk_alloc HBQ.out _) HB1.out), Lib.hid ((HB.out.alloc HB.out.size _).trans (HB1.out.mono (Nat.le_trans HB.out.size (by simp))))⟩
      · have q0 : wr.cell? ⟨w.heap.size + 1, 4, none⟩ = some (.int .i64 22) := (blk_cell (HBQ.out) 4).trans rfl
        have q1 : wr.cell? ⟨w.heap.size + 1, 5, none⟩ = some (.func (Fn.func 132) #[] #[]) := (blk_cell (HBQ.out) 5).trans rfl
        have hat : filter_Right.q2 a0_0 a0_1 a0_2 a0_3 a0_4 a0_5 a0_6 a0_7 a0_8 a0_9 a0_10 a0_11 a0_12 a0_13 a0_14 = some r := HAT.out
        unfold filter_Right.q2 at hat
        obtain ⟨b, hb, hat⟩ := Option.bind_eq_some_iff.1 hat
        have HC := fun w => Lib.hid (filter_questions_3.calls a0_0 a0_1 a0_2 a0_3 a0_4 a0_5 a0_6 a0_7 a0_8 a0_9 a0_10 a0_11 a0_12 a0_13 a0_14 b w hb)
        clear hb
        cases b
        · have hr : (22 : Int) = r := by simpa using hat
          subst hr; clear hat
          go_wp2_with (first | (go_at_call 132; refine (HC _).out.mono ?_; rintro e w1 ⟨rfl, hb1⟩; have c0' : w1.cell? ⟨wr.heap.size, 0, none⟩ = some (.int .i64 22) := pw_cell_below hb1 ((blk_cell (blk_new wr (.cells #[.int .i64 22, .func (Fn.func 132) #[] #[]] 130)) 0).trans rfl); have HB1 := Lib.hid hb1; clear hb1))
          go_ret
          exact ⟨rfl, (HB.out.alloc HB.out.size _).trans (HB1.out.mono (Nat.le_trans HB.out.size (by simp)))⟩
        · have hat' : filter_Right.q3 a0_0 a0_1 a0_2 a0_3 a0_4 a0_5 a0_6 a0_7 a0_8 a0_9 a0_10 a0_11 a0_12 a0_13 a0_14 = some r := by simpa using hat
          clear hat
          have HAT' : Hid (filter_Right.at 3 a0_0 a0_1 a0_2 a0_3 a0_4 a0_5 a0_6 a0_7 a0_8 a0_9 a0_10 a0_11 a0_12 a0_13 a0_14 r) := Lib.hid (by first | exact hat' | (have := hat'; unfold filter_Right.q7 at this; exact Option.some.inj this))
          go_wp2_with (first | (go_at_call 132; refine (HC _).out.mono ?_; rintro e w1 ⟨rfl, hb1⟩; have c0' : w1.cell? ⟨wr.heap.size, 0, none⟩ = some (.int .i64 22) := pw_cell_below hb1 ((blk_cell (blk_new wr (.cells #[.int .i64 22, .func (Fn.func 132) #[] #[]] 130)) 0).trans rfl); have HB1 := Lib.hid hb1; clear hb1))
          go_roundg (4)
          case measure => have := HI.out; omega
          case rel => exact ⟨3, by omega, Lib.hid (by omega), rfl, HAT', Lib.hid (blk_below (blk_alloc HBF.out _) HB1.out), Lib.hid (blk_below (blk_alloc HBQ.out _) HB1.out), Lib.hid ((HB.out.alloc HB.out.size _).trans (HB1.out.mono (Nat.le_trans HB.out.size (by simp))))⟩
      · have q0 : wr.cell? ⟨w.heap.size + 1, 6, none⟩ = some (.int .i64 6) := (blk_cell (HBQ.out) 6).trans rfl
        have q1 : wr.cell? ⟨w.heap.size + 1, 7, none⟩ = some (.func (Fn.func 133) #[] #[]) := (blk_cell (HBQ.out) 7).trans rfl
        have hat : filter_Right.q3 a0_0 a0_1 a0_2 a0_3 a0_4 a0_5 a0_6 a0_7 a0_8 a0_9 a0_10 a0_11 a0_12 a0_13 a0_14 = some r := HAT.out
        unfold filter_Right.q3 at hat
        obtain ⟨b, hb, hat⟩ := Option.bind_eq_some_iff.1 hat
        have HC := fun w => Lib.hid (filter_questions_4.calls a0_0 a0_1 a0_2 a0_3 a0_4 a0_5 a0_6 a0_7 a0_8 a0_9 a0_10 a0_11 a0_12 a0_13 a0_14 b w hb)
        clear hb
        cases b
        · have hr : (6 : Int) = r := by simpa using hat
          subst hr; clear hat
          go_wp2_with (first | (go_at_call 133; refine (HC _).out.mono ?_; rintro e w1 ⟨rfl, hb1⟩; have c0' : w1.cell? ⟨wr.heap.size, 0, none⟩ = some (.int .i64 6) := pw_cell_below hb1 ((blk_cell (blk_new wr (.cells #[.int .i64 6, .func (Fn.func 133) #[] #[]] 130)) 0).trans rfl); have HB1 := Lib.hid hb1; clear hb1))
          go_ret
          exact ⟨rfl, (HB.out.alloc HB.out.size _).trans (HB1.out.mono (Nat.le_trans HB.out.size (by simp)))⟩
        · have hat' : filter_Right.q4 a0_0 a0_1 a0_2 a0_3 a0_4 a0_5 a0_6 a0_7 a0_8 a0_9 a0_10 a0_11 a0_12 a0_13 a0_14 = some r := by simpa using hat
          clear hat
          have HAT' : Hid (filter_Right.at 4 a0_0 a0_1 a0_2 a0_3 a0_4 a0_5 a0_6 a0_7 a0_8 a0_9 a0_10 a0_11 a0_12 a0_13 a0_14 r) := Lib.hid (by first | exact hat' | (have := hat'; unfold filter_Right.q7 at this; exact Option.some.inj this))
          go_wp2_with (first | (go_at_call 133; refine (HC _).out.mono ?_; rintro e w1 ⟨rfl, hb1⟩; have c0' : w1.cell? ⟨wr.heap.size, 0, none⟩ = some (.int .i64 6) := pw_cell_below hb1 ((blk_cell (blk_new wr (.cells #[.int .i64 6, .func (Fn.func 133) #[] #[]] 130)) 0).trans rfl); have HB1 := Lib.hid hb1; clear hb1))
          go_roundg (3)
          case measure => have := HI.out; omega
          case rel => exact ⟨4, by omega, Lib.hid (by omega), rfl, HAT', Lib.hid (blk_below (blk_alloc HBF.out _) HB1.out), Lib.hid (blk_below (blk_alloc HBQ.out _) HB1.out), Lib.hid ((HB.out.alloc HB.out.size _).trans (HB1.out.mono (Nat.le_trans HB.out.size (by simp))))⟩
      · have q0 : wr.cell? ⟨w.heap.size + 1, 8, none⟩ = some (.int .i64 7) := (blk_cell (HBQ.out) 8).trans rfl
        have q1 : wr.cell? ⟨w.heap.size + 1, 9, none⟩ = some (.func (Fn.func 135) #[] #[]) := (blk_cell (HBQ.out) 9).trans rfl
        have hat : filter_Right.q4 a0_0 a0_1 a0_2 a0_3 a0_4 a0_5 a0_6 a0_7 a0_8 a0_9 a0_10 a0_11 a0_12 a0_13 a0_14 = some r := HAT.out
        unfold filter_Right.q4 at hat
        obtain ⟨b, hb, hat⟩ := Option.bind_eq_some_iff.1 hat
        have HC := fun w => Lib.hid (filter_questions_5.calls a0_0 a0_1 a0_2 a0_3 a0_4 a0_5 a0_6 a0_7 a0_8 a0_9 a0_10 a0_11 a0_12 a0_13 a0_14 b w hb)
        clear hb
        cases b
        · have hr : (7 : Int) = r := by simpa using hat
          subst hr; clear hat
          go_wp2_with (first | (go_at_call 135; refine (HC _).out.mono ?_; rintro e w1 ⟨rfl, hb1⟩; have c0' : w1.cell? ⟨wr.heap.size, 0, none⟩ = some (.int .i64 7) := pw_cell_below hb1 ((blk_cell (blk_new wr (.cells #[.int .i64 7, .func (Fn.func 135) #[] #[]] 130)) 0).trans rfl); have HB1 := Lib.hid hb1; clear hb1))
          go_ret
          exact ⟨rfl, (HB.out.alloc HB.out.size _).trans (HB1.out.mono (Nat.le_trans HB.out.size (by simp)))⟩
        · have hat' : filter_Right.q5 a0_0 a0_1 a0_2 a0_3 a0_4 a0_5 a0_6 a0_7 a0_8 a0_9 a0_10 a0_11 a0_12 a0_13 a0_14 = some r := by simpa using hat
          clear hat
          have HAT' : Hid (filter_Right.at 5 a0_0 a0_1 a0_2 a0_3 a0_4 a0_5 a0_6 a0_7 a0_8 a0_9 a0_10 a0_11 a0_12 a0_13 a0_14 r) := Lib.hid (by first | exact hat' | (have := hat'; unfold filter_Right.q7 at this; exact Option.some.inj this))
          go_wp2_with (first | (go_at_call 135; refine (HC _).out.mono ?_; rintro e w1 ⟨rfl, hb1⟩; have c0' : w1.cell? ⟨wr.heap.size, 0, none⟩ = some (.int .i64 7) := pw_cell_below hb1 ((blk_cell (blk_new wr (.cells #[.int .i64 7, .func (Fn.func 135) #[] #[]] 130)) 0).trans rfl); have HB1 := Lib.hid hb1; clear hb1))
          go_roundg (2)
          case measure => have := HI.out; omega
          case rel => exact ⟨5, by omega, Lib.hid (by omega), rfl, HAT', Lib.hid (blk_below (blk_alloc HBF.out _) HB1.out), Lib.hid (blk_below (blk_alloc HBQ.out _) HB1.out), Lib.hid ((HB.out.alloc HB.out.size _).trans (HB1.out.mono (Nat.le_trans HB.out.size (by simp))))⟩
      · have q0 : wr.cell? ⟨w.heap.size + 1, 10, none⟩ = some (.int .i64 6) := (blk_cell (HBQ.out) 10).trans rfl
        have q1 : wr.cell? ⟨w.heap.size + 1, 11, none⟩ = some (.func (Fn.func 136) #[] #[]) := (blk_cell (HBQ.out) 11).trans rfl
        have hat : filter_Right.q5 a0_0 a0_1 a0_2 a0_3 a0_4 a0_5 a0_6 a0_7 a0_8 a0_9 a0_10 a0_11 a0_12 a0_13 a0_14 = some r := HAT.out
        unfold filter_Right.q5 at hat
        obtain ⟨b, hb, hat⟩ := Option.bind_eq_some_iff.1 hat
        have HC := fun w => Lib.hid (filter_questions_6.calls a0_0 a0_1 a0_2 a0_3 a0_4 a0_5 a0_6 a0_7 a0_8 a0_9 a0_10 a0_11 a0_12 a0_13 a0_14 b w hb)
        clear hb
        cases b
        · have hr : (6 : Int) = r := by simpa using hat
          subst hr; clear hat
          go_wp2_with (first | (go_at_call 136; refine (HC _).out.mono ?_; rintro e w1 ⟨rfl, hb1⟩; have c0' : w1.cell? ⟨wr.heap.size, 0, none⟩ = some (.int .i64 6) := pw_cell_below hb1 ((blk_cell (blk_new wr (.cells #[.int .i64 6, .func (Fn.func 136) #[] #[]] 130)) 0).trans rfl); have HB1 := Lib.hid hb1; clear hb1))
          go_ret
          exact ⟨rfl, (HB.out.alloc HB.out.size _).trans (HB1.out.mono (Nat.le_trans HB.out.size (by simp)))⟩
        · have hat' : filter_Right.q6 a0_0 a0_1 a0_2 a0_3 a0_4 a0_5 a0_6 a0_7 a0_8 a0_9 a0_10 a0_11 a0_12 a0_13 a0_14 = some r := by simpa using hat
          clear hat
          have HAT' : Hid (filter_Right.at 6 a0_0 a0_1 a0_2 a0_3 a0_4 a0_5 a0_6 a0_7 a0_8 a0_9 a0_10 a0_11 a0_12 a0_13 a0_14 r) := Lib.hid (by first | exact hat' | (have := hat'; unfold filter_Right.q7 at this; exact Option.some.inj this))
          go_wp2_with (first | (go_at_call 136; refine (HC _).out.mono ?_; rintro e w1 ⟨rfl, hb1⟩; have c0' : w1.cell? ⟨wr.heap.size, 0, none⟩ = some (.int .i64 6) := pw_cell_below hb1 ((blk_cell (blk_new wr (.cells #[.int .i64 6, .func (Fn.func 136) #[] #[]] 130)) 0).trans rfl); have HB1 := Lib.hid hb1; clear hb1))
          go_roundg (1)
          case measure => have := HI.out; omega
          case rel => exact ⟨6, by omega, Lib.hid (by omega), rfl, HAT', Lib.hid (blk_below (blk_alloc HBF.out _) HB1.out), Lib.hid (blk_below (blk_alloc HBQ.out _) HB1.out), Lib.hid ((HB.out.alloc HB.out.size _).trans (HB1.out.mono (Nat.le_trans HB.out.size (by simp))))⟩
      · have q0 : wr.cell? ⟨w.heap.size + 1, 12, none⟩ = some (.int .i64 15) := (blk_cell (HBQ.out) 12).trans rfl
        have q1 : wr.cell? ⟨w.heap.size + 1, 13, none⟩ = some (.func (Fn.func 138) #[] #[]) := (blk_cell (HBQ.out) 13).trans rfl
        have hat : filter_Right.q6 a0_0 a0_1 a0_2 a0_3 a0_4 a0_5 a0_6 a0_7 a0_8 a0_9 a0_10 a0_11 a0_12 a0_13 a0_14 = some r := HAT.out
        unfold filter_Right.q6 at hat
        obtain ⟨b, hb, hat⟩ := Option.bind_eq_some_iff.1 hat
        have HC := fun w => Lib.hid (filter_questions_7.calls a0_0 a0_1 a0_2 a0_3 a0_4 a0_5 a0_6 a0_7 a0_8 a0_9 a0_10 a0_11 a0_12 a0_13 a0_14 b w hb)
        clear hb
        cases b
        · have hr : (15 : Int) = r := by simpa using hat
          subst hr; clear hat
          go_wp2_with (first | (go_at_call 138; refine (HC _).out.mono ?_; rintro e w1 ⟨rfl, hb1⟩; have c0' : w1.cell? ⟨wr.heap.size, 0, none⟩ = some (.int .i64 15) := pw_cell_below hb1 ((blk_cell (blk_new wr (.cells #[.int .i64 15, .func (Fn.func 138) #[] #[]] 130)) 0).trans rfl); have HB1 := Lib.hid hb1; clear hb1))
          go_ret
          exact ⟨rfl, (HB.out.alloc HB.out.size _).trans (HB1.out.mono (Nat.le_trans HB.out.size (by simp)))⟩
        · have hat' : filter_Right.q7 a0_0 a0_1 a0_2 a0_3 a0_4 a0_5 a0_6 a0_7 a0_8 a0_9 a0_10 a0_11 a0_12 a0_13 a0_14 = some r := by simpa using hat
          clear hat
          have HAT' : Hid (filter_Right.at 7 a0_0 a0_1 a0_2 a0_3 a0_4 a0_5 a0_6 a0_7 a0_8 a0_9 a0_10 a0_11 a0_12 a0_13 a0_14 r) := Lib.hid (by first | exact hat' | (have := hat'; unfold filter_Right.q7 at this; exact Option.some.inj this))
          go_wp2_with (first | (go_at_call 138; refine (HC _).out.mono ?_; rintro e w1 ⟨rfl, hb1⟩; have c0' : w1.cell? ⟨wr.heap.size, 0, none⟩ = some (.int .i64 15) := pw_cell_below hb1 ((blk_cell (blk_new wr (.cells #[.int .i64 15, .func (Fn.func 138) #[] #[]] 130)) 0).trans rfl); have HB1 := Lib.hid hb1; clear hb1))
          go_roundg (0)
          case measure => have := HI.out; omega
          case rel => exact ⟨7, by omega, Lib.hid (by omega), rfl, HAT', Lib.hid (blk_below (blk_alloc HBF.out _) HB1.out), Lib.hid (blk_below (blk_alloc HBQ.out _) HB1.out), Lib.hid ((HB.out.alloc HB.out.size _).trans (HB1.out.mono (Nat.le_trans HB.out.size (by simp))))⟩
    · obtain rfl : i' = 7 := by omega
      have hr : (0 : Int) = r := HAT.out
      subst hr
      go_wp2
      go_ret
      exact ⟨rfl, HB.out⟩

/-! ### inet_high: function 123 -/
def inet_high.f (a0 : Int) (a1 : Int) : Option (Int) := if a1 ≤ 0 then (some 0) else (if 0 ≤ (IntKind.u64.wrap (wrap64 (64 - (mn a1 64)))) then (some (Go.bits .andNot .u64 a0 (IntKind.u64.wrap ((shl .u64 1 (IntKind.u64.wrap (wrap64 (64 - (mn a1 64))))) - 1)))) else (none))
set_option maxHeartbeats 8000000 in
set_option maxRecDepth 100000 in
theorem inet_high.calls (a0 : Int) (a1 : Int) (r : Int) (w : World) (h : inet_high.f a0 a1 = some r) :
    Calls Try.prog 123 #[.int .u64 a0, .int .i64 a1] w fun e w' => e = .returned (.int .u64 r) ∧ Below w.heap.size w w' := by
  have HB := Aside0.mk (Below.refl w.heap.size w)
  have H : (if a1 ≤ 0 then (some 0) else (if 0 ≤ (IntKind.u64.wrap (wrap64 (64 - (mn a1 64)))) then (some (Go.bits .andNot .u64 a0 (IntKind.u64.wrap ((shl .u64 1 (IntKind.u64.wrap (wrap64 (64 - (mn a1 64))))) - 1)))) else (none))) = some r := h
  clear h
  by_cases c3 : a1 ≤ 0
  · rw [if_pos c3] at H
    have c3b0 : decide (a1 ≤ 0) = true := decide_eq_true c3
    clear c3
    obtain rfl := Option.some.inj H
    go_enter Try.func123, Try.ntmps123
    go_wp2
    go_ret
    exact ⟨by first | rfl | (simp [errW_none, errW_some] <;> rfl) | (simp [*, errW_none, errW_some] <;> rfl), by repeat (first | (with_reducible first | exact HB.out | apply below_alloc | apply pw_below_drewN | apply below_drew1) | exact HB.out)⟩
  · rw [if_neg c3] at H
    have c3b0 : decide (a1 ≤ 0) = false := decide_eq_false c3
    clear c3
    obtain ⟨ji4, hji4⟩ : ∃ j_ : Int, (mn a1 64) = j_ := ⟨_, rfl⟩
    replace H : (if 0 ≤ (IntKind.u64.wrap (wrap64 (64 - (ji4)))) then (some (Go.bits .andNot .u64 a0 (IntKind.u64.wrap ((shl .u64 1 (IntKind.u64.wrap (wrap64 (64 - (ji4))))) - 1)))) else (none)) = some r := by first | (rw [hji4] at H; exact H) | (simp only [hji4] at H ⊢; exact H)
    (try (have hji4h : ji4 ≤ 64 := by (rw [← hji4]; unfold mn; (repeat' split) <;> omega)))
    (try (have hji4g : ji4 ≤ 64 := by omega))
    have hji4_ : (if 64 < a1 then 64 else a1) = ji4 := hji4
    obtain ⟨ji5, hji5⟩ : ∃ j_ : Int, (IntKind.u64.wrap (wrap64 (64 - (ji4)))) = j_ := ⟨_, rfl⟩
    replace H : (if 0 ≤ (ji5) then (some (Go.bits .andNot .u64 a0 (IntKind.u64.wrap ((shl .u64 1 (ji5)) - 1)))) else (none)) = some r := by first | (rw [hji5] at H; exact H) | (simp only [hji5] at H ⊢; exact H)
    by_cases c6 : 0 ≤ (ji5)
    · rw [if_pos c6] at H
      have c6b0 := eq_true c6
      have c6b1 : decide (0 ≤ (ji5)) = true := decide_eq_true c6
      clear c6
      obtain ⟨ji7, hji7⟩ : ∃ j_ : Int, (shl .u64 1 (ji5)) = j_ := ⟨_, rfl⟩
      replace H : (some (Go.bits .andNot .u64 a0 (IntKind.u64.wrap ((ji7) - 1)))) = some r := by first | (rw [hji7] at H; exact H) | (simp only [hji7] at H ⊢; exact H)
      have hji7_ : (IntKind.u64.wrap (1 * 2 ^ min (ji5).toNat 64)) = ji7 := hji7
      have hji7z : (ji5) ≤ 64 → (IntKind.u64.wrap (1 * 2 ^ (ji5).toNat)) = ji7 := shl_small hji7
      have hji7u : (IntKind.u64.wrap (2 ^ min (ji5).toNat 64)) = ji7 := by have h_ := hji7_; rw [Int.one_mul] at h_; exact h_
      have hji7v : (ji5) ≤ 64 → (IntKind.u64.wrap (2 ^ (ji5).toNat)) = ji7 := fun hle_ => by have h_ := hji7z hle_; rw [Int.one_mul] at h_; exact h_
      obtain rfl := Option.some.inj H
      go_enter Try.func123, Try.ntmps123
      go_wp2
      go_ret
      exact ⟨by first | rfl | (simp [errW_none, errW_some] <;> rfl) | (simp only [← hji4, ← hji5, ← hji7]; first | rfl | (simp [errW_none, errW_some] <;> rfl)) | (simp [*, errW_none, errW_some] <;> rfl), by repeat (first | (with_reducible first | exact HB.out | apply below_alloc | apply pw_below_drewN | apply below_drew1) | exact HB.out)⟩
    · rw [if_neg c6] at H
      exact absurd H (by simp)

end Go.Proofs.Ytlnnghbbjbimoaa.PF
