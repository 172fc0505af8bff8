/- flashlocklaw05.VclockPlays and VclockParts, walked. -/
import Derived.Test.YtkgcoeagifjbpaaVclock
import Derived.Test.YtkgcoeagifjbpaaRefSat
import Derived.Test.YtkgcoeagifjbpaaRows0
import Derived.OpenShut
namespace Go.Proofs.Ytkgcoeagifjbpaa.Vclock
open Go.RowKit Go.Proofs.Ytkgcoeagifjbpaa.SatDiv Go.Proofs.YtkgcoeagifjbpaaW.PrintWords Go.Proofs.YtkgcoeagifjbpaaW.PrintLast Go.Proofs.YtkgcoeagifjbpaaW.PrintMore
attribute [local go_sem] max2_int min2_int max_two min_two
set_option linter.unusedVariables false
set_option linter.unusedSimpArgs false

theorem rtick_ok (a n : Int) (w : World) (hn : decide (n < 0) = false) (hn1 : decide (1099511627776 < n) = false) :
    Calls Try.prog 35 #[.int .i64 a, .int .i64 n] w fun e w' => e = .returned (.tuple #[.int .i64 (addV a n), .int .i64 0]) ∧ w = w' := by
  go_enter Try.func35, Try.ntmps35
  go_wp2_with (first | (go_at_call 54; refine (radd_calls _ _ _).mono ?_; rintro e w' ⟨rfl, rfl⟩))
  go_ret2
  exact ⟨rfl, rfl⟩
theorem rtick_low (a n : Int) (w : World) (hn : decide (n < 0) = true) :
    Calls Try.prog 35 #[.int .i64 a, .int .i64 n] w fun e w' => e = .returned (.tuple #[.int .i64 a, .int .i64 2]) ∧ w = w' := by
  go_enter Try.func35, Try.ntmps35
  go_wp2
  go_ret2
  exact ⟨rfl, rfl⟩
theorem rtick_high (a n : Int) (w : World) (hn : decide (n < 0) = false) (hn1 : decide (1099511627776 < n) = true) :
    Calls Try.prog 35 #[.int .i64 a, .int .i64 n] w fun e w' => e = .returned (.tuple #[.int .i64 a, .int .i64 2]) ∧ w = w' := by
  go_enter Try.func35, Try.ntmps35
  go_wp2
  go_ret2
  exact ⟨rfl, rfl⟩
theorem rleft_ok (a u : Int) (w : World) :
    Calls Try.prog 38 #[.int .i64 a, .int .i64 u] w fun e w' => e = .returned (.int .i64 (leftV a u)) ∧ w = w' := by
  unfold leftV
  by_cases h : subV u a < 0
  · rw [if_pos h]
    have hd : decide (subV u a < 0) = true := decide_eq_true h
    go_enter Try.func38, Try.ntmps38
    go_wp2_with (first | (go_at_call 55; refine (rsub_calls _ _ _).mono ?_; rintro e w' ⟨rfl, rfl⟩))
    go_ret
    exact ⟨rfl, rfl⟩
  · rw [if_neg h]
    have hd : decide (subV u a < 0) = false := decide_eq_false h
    go_enter Try.func38, Try.ntmps38
    go_wp2_with (first | (go_at_call 55; refine (rsub_calls _ _ _).mono ?_; rintro e w' ⟨rfl, rfl⟩))
    go_ret
    exact ⟨rfl, rfl⟩
theorem lives_calls (w : World) : Calls Try.prog 32 #[] w fun e w' => e = .returned (.bool true) ∧ Below w.heap.size w w' := by
  have K0 : Hid (Clk (w.alloc (.cells #[.int .i64 5, .int .i64 0] 75)) w.heap.size 5 0) := Lib.hid (blk_new w _)
  have e1 : addV 5 7 = 12 := by decide
  have e2 : leftV 12 20 = 8 := by decide
  have e3 : leftV 12 3 = 0 := by decide
  go_enter Try.func32, Try.ntmps32
  go_wp2_with fail
  refine (new_ok 5 _ (by decide) (by decide)).mono ?_
  rintro e w1 ⟨rfl, rfl⟩
  go_wp2_with fail
  refine (tick_ok _ 5 0 7 _ K0.out (by decide) (by decide) (by decide) (by decide)).mono ?_
  rintro e w1 ⟨rfl, hk, hg⟩
  have K1 := Lib.hid (e1 ▸ hk); clear hk e1
  have G1 := Lib.hid hg; clear hg
  go_wp2_with fail
  refine (now_ok _ _ _ _ K1.out).mono ?_
  rintro e w2 ⟨rfl, rfl⟩
  go_wp2_with fail
  refine (left_ok _ _ _ _ _ K1.out).mono ?_
  rintro e w2 ⟨rfl, rfl⟩
  go_wp2_with fail
  refine (left_ok _ _ _ _ _ K1.out).mono ?_
  rintro e w2 ⟨rfl, rfl⟩
  go_wp2_with fail
  go_ret
  exact ⟨rfl, (((Below.refl _ _).alloc (Nat.le_refl _) _).grown G1.out (by simp) (fun k h => by cases h; exact Nat.le_refl _))⟩

set_option maxRecDepth 100000 in
set_option maxHeartbeats 1600000 in
theorem plays_calls (a0 : Int) (a1 : Option Addr) (l1 : List Int) (cap1 : Nat) (a2 : Int) (w : World) (w0 : (Lit.int .i64 a0).wf = true) (hm1 : l1.length ≤ maxLen) (y1 : l1.length * 8 ≤ 140737488351232) (hw1 : ∀ x ∈ l1, (Lit.int .i64 x).wf = true) (w2 : (Lit.int .i64 a2).wf = true) (hr1 : Kd.C (Kd.int .i64) w a1 l1.length l1) (hc1 : l1.length ≤ cap1) :
    Calls Try.prog 8 #[.int .i64 a0, .slice a1 l1.length cap1, .int .i64 a2] w fun e w' => e = .returned (.bool true) ∧ Below w.heap.size w w' := by
  clear hm1 w0 w2 hw1
  have HR := Lib.hid hr1; clear hr1
  by_cases h1 : a0 < 0
  · have f1 : decide (a0 < 0) = true := decide_eq_true h1
    go_enter Try.func8, Try.ntmps8
    go_wp2_with (first | (go_at_call 31; refine (new_low _ _ f1).mono ?_; rintro e w' ⟨rfl, rfl⟩) | (go_at_call 32; refine (lives_calls _).mono ?_; rintro e w3 ⟨rfl, hb3⟩))
    go_ret
    exact ⟨rfl, hb3⟩
  by_cases h2 : 1152921504606846976 < a0
  · have f1 : decide (a0 < 0) = false := decide_eq_false h1
    have f2 : decide (1152921504606846976 < a0) = true := decide_eq_true h2
    go_enter Try.func8, Try.ntmps8
    go_wp2_with (first | (go_at_call 31; refine (new_high _ _ f1 f2).mono ?_; rintro e w' ⟨rfl, rfl⟩) | (go_at_call 32; refine (lives_calls _).mono ?_; rintro e w3 ⟨rfl, hb3⟩))
    go_ret
    exact ⟨rfl, hb3⟩
  have f1 : decide (a0 < 0) = false := decide_eq_false h1
  have f2 : decide (1152921504606846976 < a0) = false := decide_eq_false h2
  have K0 : Hid (Clk (w.alloc (.cells #[.int .i64 a0, .int .i64 0] 75)) w.heap.size a0 0) := Lib.hid (blk_new w _)
  have HN := fun w => Lib.hid (new_ok a0 w (by omega) (by omega))
  clear h1 h2
  by_cases h3 : 60 < l1.length
  · go_enter Try.func8, Try.ntmps8
    go_wp2_with (first | (go_at_call 31; refine (HN _).out.mono ?_; rintro e w' ⟨rfl, rfl⟩) | (go_at_call 32; refine (lives_calls _).mono ?_; rintro e w3 ⟨rfl, hb3⟩))
    go_ret
    exact ⟨rfl, ((Below.refl _ _).alloc (Nat.le_refl _) _).trans (hb3.mono (by simp))⟩
  · have h3' : l1.length ≤ 60 := by omega
    clear h3
    go_enter Try.func8, Try.ntmps8
    go_wp2_with (first | (go_at_call 31; refine (HN _).out.mono ?_; rintro e w' ⟨rfl, rfl⟩))
    go_loopg [8, 44] l1.length (fun k cnt i wr => ∃ (i' : Nat) (a t : Int), i' ≤ l1.length ∧ Hid (i' + k = l1.length) ∧ cnt = .int .i64 t ∧ i = .int .i64 i' ∧ 0 ≤ t ∧ t ≤ 60 ∧ Hid (t ≤ i') ∧ Hid (Clk wr w.heap.size a t) ∧ Hid (Below w.heap.size w wr))
    case atStart => exact ⟨0, a0, 0, by omega, Lib.hid (by omega), rfl, rfl, by omega, by omega, Lib.hid (by omega), K0, Lib.hid ((Below.refl _ _).alloc (Nat.le_refl _) _)⟩
    case round =>
      obtain ⟨i', a, t, hi, HI, rfl, rfl, ht0, ht1, HT, HK, HB⟩ := hrel
      by_cases hlt : i' < l1.length
      · obtain ⟨ad, hA, hcell⟩ := Rw.int_at HR.out i' hlt
        subst hA
        replace hcell := pw_cell_below HB.out hcell
        generalize l1[i'] = n at *
        by_cases g1 : n < 0
        · have G1 := Lib.hid (decide_eq_true g1); clear g1
          go_wp2_with fail
          refine (now_ok _ _ _ _ HK.out).mono ?_
          rintro e w' ⟨rfl, rfl⟩
          go_wp2_with fail
          refine (copy_ok _ _ _ _ HK.out).mono ?_
          rintro e w1 ⟨rfl, hd, hb⟩
          have HK1 := Lib.hid (HK.out.below hb)
          have HD := Lib.hid hd; clear hd
          have HB1 := Lib.hid hb; clear hb
          go_wp2_with fail
          refine (rtick_low _ _ _ G1.out).mono ?_
          rintro e w' ⟨rfl, rfl⟩
          go_wp2_with fail
          refine (tick_low _ _ _ G1.out).mono ?_
          rintro e w' ⟨rfl, rfl⟩
          go_wp2_with fail
          refine (now_ok _ _ _ _ HK1.out).mono ?_
          rintro e w' ⟨rfl, rfl⟩
          go_wp2_with fail
          refine (left_ok _ _ _ _ _ HK1.out).mono ?_
          rintro e w' ⟨rfl, rfl⟩
          go_wp2_with fail
          refine (rleft_ok _ _ _).mono ?_
          rintro e w' ⟨rfl, rfl⟩
          go_wp2_with fail
          refine (now_ok _ _ _ _ HD.out).mono ?_
          rintro e w' ⟨rfl, rfl⟩
          go_wp2_with fail
          go_roundg (gk - 1)
          case measure => have := HI.out; omega
          case rel => exact ⟨i' + 1, a, t, by omega, Lib.hid (by have := HI.out; omega), rfl, by go_num, ht0, ht1, Lib.hid (by have := HT.out; omega), HK1, Lib.hid (HB.out.trans (HB1.out.mono HB.out.size))⟩
        by_cases g2 : 1099511627776 < n
        · have G1 := Lib.hid (decide_eq_false g1); clear g1
          have G2 := Lib.hid (decide_eq_true g2); clear g2
          go_wp2_with fail
          refine (now_ok _ _ _ _ HK.out).mono ?_
          rintro e w' ⟨rfl, rfl⟩
          go_wp2_with fail
          refine (copy_ok _ _ _ _ HK.out).mono ?_
          rintro e w1 ⟨rfl, hd, hb⟩
          have HK1 := Lib.hid (HK.out.below hb)
          have HD := Lib.hid hd; clear hd
          have HB1 := Lib.hid hb; clear hb
          go_wp2_with fail
          refine (rtick_high _ _ _ G1.out G2.out).mono ?_
          rintro e w' ⟨rfl, rfl⟩
          go_wp2_with fail
          refine (tick_high _ _ _ G1.out G2.out).mono ?_
          rintro e w' ⟨rfl, rfl⟩
          go_wp2_with fail
          refine (now_ok _ _ _ _ HK1.out).mono ?_
          rintro e w' ⟨rfl, rfl⟩
          go_wp2_with fail
          refine (left_ok _ _ _ _ _ HK1.out).mono ?_
          rintro e w' ⟨rfl, rfl⟩
          go_wp2_with fail
          refine (rleft_ok _ _ _).mono ?_
          rintro e w' ⟨rfl, rfl⟩
          go_wp2_with fail
          refine (now_ok _ _ _ _ HD.out).mono ?_
          rintro e w' ⟨rfl, rfl⟩
          go_wp2_with fail
          go_roundg (gk - 1)
          case measure => have := HI.out; omega
          case rel => exact ⟨i' + 1, a, t, by omega, Lib.hid (by have := HI.out; omega), rfl, by go_num, ht0, ht1, Lib.hid (by have := HT.out; omega), HK1, Lib.hid (HB.out.trans (HB1.out.mono HB.out.size))⟩
        · have G1 := Lib.hid (decide_eq_false g1); clear g1
          have G2 := Lib.hid (decide_eq_false g2); clear g2
          go_wp2_with fail
          refine (now_ok _ _ _ _ HK.out).mono ?_
          rintro e w' ⟨rfl, rfl⟩
          go_wp2_with fail
          refine (copy_ok _ _ _ _ HK.out).mono ?_
          rintro e w1 ⟨rfl, hd, hb⟩
          have HK1 := Lib.hid (HK.out.below hb)
          have HD := Lib.hid hd; clear hd
          have HB1 := Lib.hid hb; clear hb
          go_wp2_with fail
          refine (rtick_ok _ _ _ G1.out G2.out).mono ?_
          rintro e w' ⟨rfl, rfl⟩
          go_wp2_with fail
          refine (tick_ok _ _ _ _ _ HK1.out G1.out G2.out ht0 (by omega)).mono ?_
          rintro e w2 ⟨rfl, hk, hg⟩
          have HK2 := Lib.hid hk; clear hk
          have HD2 := Lib.hid (HD.out.grown hg (by intro e; have := HK.out.lt; have := Option.some.inj e; omega))
          have HB2 := Lib.hid ((HB.out.trans (HB1.out.mono HB.out.size)).grown hg (HB.out.trans (HB1.out.mono HB.out.size)).size (fun k h => by cases h; exact Nat.le_refl _)); clear hg
          go_wp2_with fail
          refine (now_ok _ _ _ _ HK2.out).mono ?_
          rintro e w' ⟨rfl, rfl⟩
          go_wp2_with fail
          refine (left_ok _ _ _ _ _ HK2.out).mono ?_
          rintro e w' ⟨rfl, rfl⟩
          go_wp2_with fail
          refine (rleft_ok _ _ _).mono ?_
          rintro e w' ⟨rfl, rfl⟩
          go_wp2_with fail
          refine (now_ok _ _ _ _ HD2.out).mono ?_
          rintro e w' ⟨rfl, rfl⟩
          go_wp2_with fail
          go_roundg (gk - 1)
          case measure => have := HI.out; omega
          case rel => exact ⟨i' + 1, addV a n, t + 1, by omega, Lib.hid (by have := HI.out; omega), rfl, by go_num, by omega, by have := HT.out; omega, Lib.hid (by have := HT.out; omega), HK2, HB2⟩
      · have he : i' = l1.length := by omega
        go_wp2_with (first | (go_at_call 39; refine (ticks_ok _ _ _ _ HK.out).mono ?_; rintro e w' ⟨rfl, rfl⟩) | (go_at_call 32; refine (lives_calls _).mono ?_; rintro e w3 ⟨rfl, hb3⟩))
        go_ret
        exact ⟨rfl, HB.out.trans (hb3.mono HB.out.size)⟩

theorem add_up {a n : Int} (h0 : 0 ≤ a) (h1 : a ≤ 1152921504606846976) (h2 : 0 ≤ n) (h3 : n ≤ 1099511627776) : a ≤ addV a n ∧ addV a n ≤ 1152921504606846976 ∧ addV (addV a (n / 2)) (n - n / 2) = addV a n := by
  have e (x y : Int) (hx : 0 ≤ x) (hx1 : x ≤ 1152921504606846976) (hy : 0 ≤ y) (hy1 : y ≤ 1099511627776) : addV x y = if 1152921504606846976 < x + y then 1152921504606846976 else x + y := by
    unfold addV hd; split <;> split <;> (try split) <;> (try split) <;> (try split) <;> (try split) <;> omega
  have e1 := e a n h0 h1 h2 h3
  have e2 := e a (n / 2) h0 h1 (by omega) (by omega)
  have e3 : 0 ≤ addV a (n / 2) ∧ addV a (n / 2) ≤ 1152921504606846976 := by rw [e2]; split <;> omega
  have e4 := e (addV a (n / 2)) (n - n / 2) e3.1 e3.2 (by omega) (by omega)
  refine ⟨by rw [e1]; split <;> omega, by rw [e1]; split <;> omega, ?_⟩
  rw [e4, e1]
  rw [e2]; split <;> split <;> (try split) <;> omega

set_option maxRecDepth 100000 in
set_option maxHeartbeats 1600000 in
theorem parts_calls (a0 : Option Addr) (l0 : List Int) (cap0 : Nat) (a1 : Int) (w : World) (hm0 : l0.length ≤ maxLen) (y0 : l0.length * 8 ≤ 140737488351232) (hw0 : ∀ x ∈ l0, (Lit.int .i64 x).wf = true) (w1 : (Lit.int .i64 a1).wf = true) (hr0 : Kd.C (Kd.int .i64) w a0 l0.length l0) (hc0 : l0.length ≤ cap0) :
    Calls Try.prog 9 #[.slice a0 l0.length cap0, .int .i64 a1] w fun e w' => e = .returned (.bool true) ∧ Below w.heap.size w w' := by
  clear hm0 hw0 w1
  have HR := Lib.hid hr0; clear hr0
  by_cases h3 : 60 < l0.length
  · go_enter Try.func9, Try.ntmps9
    go_wp2_with (first | (go_at_call 36; refine (tick_nil _ _).mono ?_; rintro e w' ⟨rfl, rfl⟩) | (go_at_call 39; refine (ticks_nil _).mono ?_; rintro e w' ⟨rfl, rfl⟩) | (go_at_call 34; refine (copy_nil _).mono ?_; rintro e w' ⟨rfl, rfl⟩) | (go_at_call 33; refine (now_nil _).mono ?_; rintro e w' ⟨rfl, rfl⟩) | (go_at_call 37; refine (left_nil _ _).mono ?_; rintro e w' ⟨rfl, rfl⟩) | (go_at_call 32; refine (lives_calls _).mono ?_; rintro e w3 ⟨rfl, hb3⟩))
    go_ret
    exact ⟨rfl, hb3⟩
  have h3' : l0.length ≤ 60 := by omega
  clear h3
  have K0 : Hid (Clk ((w.alloc (.cells #[.int .i64 0, .int .i64 0] 75)).alloc (.cells #[.int .i64 0, .int .i64 0] 75)) w.heap.size 0 0) := Lib.hid (blk_alloc (blk_new w _) _)
  have K1 : Hid (Clk ((w.alloc (.cells #[.int .i64 0, .int .i64 0] 75)).alloc (.cells #[.int .i64 0, .int .i64 0] 75)) (w.heap.size + 1) 0 0) := Lib.hid (by have := blk_new (w.alloc (.cells #[.int .i64 0, .int .i64 0] 75)) (.cells #[.int .i64 0, .int .i64 0] 75); simpa [Clk] using this)
  go_enter Try.func9, Try.ntmps9
  go_wp2_with (first | (go_at_call 36; refine (tick_nil _ _).mono ?_; rintro e w' ⟨rfl, rfl⟩) | (go_at_call 39; refine (ticks_nil _).mono ?_; rintro e w' ⟨rfl, rfl⟩) | (go_at_call 34; refine (copy_nil _).mono ?_; rintro e w' ⟨rfl, rfl⟩) | (go_at_call 33; refine (now_nil _).mono ?_; rintro e w' ⟨rfl, rfl⟩) | (go_at_call 37; refine (left_nil _ _).mono ?_; rintro e w' ⟨rfl, rfl⟩) | (go_at_call 31; refine (new_ok 0 _ (by decide) (by decide)).mono ?_; rintro e w' ⟨rfl, rfl⟩))
  go_loopg [50] l0.length (fun k i wr => ∃ (i' : Nat) (a t u : Int), i' ≤ l0.length ∧ Hid (i' + k = l0.length) ∧ i = .int .i64 i' ∧ 0 ≤ t ∧ t ≤ 60 ∧ 0 ≤ u ∧ u ≤ 120 ∧ 0 ≤ a ∧ a ≤ 1152921504606846976 ∧ Hid (t ≤ i') ∧ Hid (u ≤ 2 * i') ∧ Hid (Clk wr w.heap.size a t) ∧ Hid (Clk wr (w.heap.size + 1) a u) ∧ Hid (Below w.heap.size w wr))
  case atStart => exact ⟨0, 0, 0, 0, by omega, Lib.hid (by omega), rfl, by omega, by omega, by omega, by omega, by omega, by omega, Lib.hid (by omega), Lib.hid (by omega), K0, K1, Lib.hid (((Below.refl _ _).alloc (Nat.le_refl _) _).alloc (by simp) _)⟩
  case round =>
    obtain ⟨i', a, t, u, hi, HI, rfl, ht0, ht1, hu0, hu1, ha0, ha1, HT, HU, HK, HL, HB⟩ := hrel
    by_cases hlt : i' < l0.length
    · obtain ⟨ad, hA, hcell⟩ := Rw.int_at HR.out i' hlt
      subst hA
      replace hcell := pw_cell_below HB.out hcell
      generalize l0[i'] = n at *
      by_cases g1 : n < 0
      · have G1 := Lib.hid (decide_eq_true g1)
        go_wp2_with (first | (go_at_call 33; refine (now_ok _ _ _ _ HK.out).mono ?_; rintro e w' ⟨rfl, rfl⟩) | (go_at_call 36; refine (tick_low _ _ _ G1.out).mono ?_; rintro e w' ⟨rfl, rfl⟩))
        go_roundg (gk - 1)
        case measure => have := HI.out; omega
        case rel => exact ⟨i' + 1, a, t, u, by omega, Lib.hid (by have := HI.out; omega), by go_num, ht0, ht1, hu0, hu1, ha0, ha1, Lib.hid (by have := HT.out; omega), Lib.hid (by have := HU.out; omega), HK, HL, HB⟩
      by_cases g2 : 1099511627776 < n
      · have G1 := Lib.hid (decide_eq_false g1)
        have G2 := Lib.hid (decide_eq_true g2)
        go_wp2_with (first | (go_at_call 33; refine (now_ok _ _ _ _ HK.out).mono ?_; rintro e w' ⟨rfl, rfl⟩) | (go_at_call 36; refine (tick_high _ _ _ G1.out G2.out).mono ?_; rintro e w' ⟨rfl, rfl⟩))
        go_roundg (gk - 1)
        case measure => have := HI.out; omega
        case rel => exact ⟨i' + 1, a, t, u, by omega, Lib.hid (by have := HI.out; omega), by go_num, ht0, ht1, hu0, hu1, ha0, ha1, Lib.hid (by have := HT.out; omega), Lib.hid (by have := HU.out; omega), HK, HL, HB⟩
      · have G1 := Lib.hid (decide_eq_false g1)
        have G2 := Lib.hid (decide_eq_false g2)
        obtain ⟨p1, p2, p3⟩ := add_up ha0 ha1 (by omega : 0 ≤ n) (by omega)
        have P1 := Lib.hid p1; clear p1
        have P2 := Lib.hid p2; clear p2
        have P3 := Lib.hid p3; clear p3
        have d1 : decide (n / 2 < 0) = false := decide_eq_false (by omega)
        have d2 : decide (1099511627776 < n / 2) = false := decide_eq_false (by omega)
        have d3 : decide (n - n / 2 < 0) = false := decide_eq_false (by omega)
        have d4 : decide (1099511627776 < n - n / 2) = false := decide_eq_false (by omega)
        have D1 := Lib.hid d1; have D2 := Lib.hid d2; have D3 := Lib.hid d3; have D4 := Lib.hid d4
        clear d1 d2 d3 d4
        have n0 : 0 ≤ n := by omega
        have n1 : n ≤ 1099511627776 := by omega
        clear g1 g2
        have d5 : decide (addV a n < a) = false := decide_eq_false (by have := P1.out; omega)
        go_wp2_with fail
        refine (now_ok _ _ _ _ HK.out).mono ?_
        rintro e w' ⟨rfl, rfl⟩
        go_wp2_with fail
        refine (tick_ok _ _ _ _ _ HK.out G1.out G2.out ht0 (by omega)).mono ?_
        rintro e w2 ⟨rfl, hk, hg⟩
        have HK2 := Lib.hid hk; clear hk
        have HL2 := Lib.hid (HL.out.grown hg (by intro e; have := Option.some.inj e; omega))
        have HB2 := Lib.hid (HB.out.grown hg HB.out.size (fun k h => by cases h; exact Nat.le_refl _)); clear hg
        go_wp2_with fail
        refine (now_ok _ _ _ _ HK2.out).mono ?_
        rintro e w' ⟨rfl, rfl⟩
        go_wp2_with fail
        refine (tick_ok _ _ _ _ _ HL2.out D1.out D2.out hu0 (by omega)).mono ?_
        rintro e w3 ⟨rfl, hk, hg⟩
        have HL3 := Lib.hid hk; clear hk
        have HK3 := Lib.hid (HK2.out.grown hg (by intro e; have := Option.some.inj e; omega))
        have HB3 := Lib.hid (HB2.out.grown hg HB2.out.size (fun k h => by cases h; omega)); clear hg
        go_wp2_with fail
        refine (tick_ok _ _ _ _ _ HL3.out D3.out D4.out (by omega) (by omega)).mono ?_
        rintro e w4 ⟨rfl, hk, hg⟩
        rw [P3.out] at hk
        have HL4 := Lib.hid hk; clear hk
        have HK4 := Lib.hid (HK3.out.grown hg (by intro e; have := Option.some.inj e; omega))
        have HB4 := Lib.hid (HB3.out.grown hg HB3.out.size (fun k h => by cases h; omega)); clear hg
        go_wp2_with fail
        refine (now_ok _ _ _ _ HK4.out).mono ?_
        rintro e w' ⟨rfl, rfl⟩
        go_wp2_with fail
        refine (now_ok _ _ _ _ HL4.out).mono ?_
        rintro e w' ⟨rfl, rfl⟩
        go_wp2_with fail
        go_roundg (gk - 1)
        case measure => have := HI.out; omega
        case rel => exact ⟨i' + 1, addV a n, t + 1, u + 1 + 1, by omega, Lib.hid (by have := HI.out; omega), by go_num, by omega, by have := HT.out; omega, by omega, by have := HU.out; omega, by have := P1.out; omega, P2.out, Lib.hid (by have := HT.out; omega), Lib.hid (by have := HU.out; omega), HK4, HL4, HB4⟩
    · have he : i' = l0.length := by omega
      go_wp2_with (first | (go_at_call 32; refine (lives_calls _).mono ?_; rintro e w3 ⟨rfl, hb3⟩))
      go_ret
      exact ⟨rfl, HB.out.trans (hb3.mono HB.out.size)⟩
end Go.Proofs.Ytkgcoeagifjbpaa.Vclock
