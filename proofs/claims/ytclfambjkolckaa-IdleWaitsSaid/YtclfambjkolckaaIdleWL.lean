/- The law IdleWaits: who waits until then is over no more. -/
import Derived.Test.YtclfambjkolckaaIdleL
import Derived.Test.YtclfambjkolckaaIdleWW
namespace Go.Proofs.Ytclfambjkolckaa.Pure
open Go Go.RowKit Go.Proofs.Ytclfambjkolckaa.PI Go.Proofs.Ytclfambjkolckaa.SatDiv Go.Proofs.Ytclfambjkolckaa.Fl Go.Proofs.YtclfambjkolckaaW.PrintWords Go.Proofs.YtclfambjkolckaaW.PrintLast Go.Proofs.YtclfambjkolckaaW.PrintMore
set_option linter.unusedVariables false
set_option linter.unusedSimpArgs false
theorem hd_id {x : Int} (h : -1152921504606846976 ≤ x ∧ x ≤ 1152921504606846976) : hd x = x := by unfold hd; rw [if_neg (by omega), if_neg (by omega)]
theorem add_id {a b : Int} (h1 : -1152921504606846976 ≤ a ∧ a ≤ 1152921504606846976) (h2 : -1152921504606846976 ≤ b ∧ b ≤ 1152921504606846976) (h3 : -1152921504606846976 ≤ a + b ∧ a + b ≤ 1152921504606846976) : addV a b = a + b := by unfold addV; rw [hd_id h1, hd_id h2, hd_id h3]
theorem sub_id {a b : Int} (h1 : -1152921504606846976 ≤ a ∧ a ≤ 1152921504606846976) (h2 : -1152921504606846976 ≤ b ∧ b ≤ 1152921504606846976) (h3 : -1152921504606846976 ≤ a - b ∧ a - b ≤ 1152921504606846976) : subV a b = a - b := by unfold subV; rw [hd_id h1, hd_id h2, hd_id h3]
theorem div_bd (x D : Int) (hD : 1 ≤ D) : (0 ≤ x → 0 ≤ x / D ∧ x / D ≤ x) ∧ (x ≤ 0 → x ≤ x / D ∧ x / D ≤ 0) := by
  have h := Int.mul_ediv_add_emod x D
  have h1 := Int.emod_nonneg x (show D ≠ 0 by omega)
  have h2 := Int.emod_lt_of_pos x (show 0 < D by omega)
  refine ⟨fun hx => ?_, fun hx => ?_⟩
  · have h3 := Int.ediv_nonneg hx (show 0 ≤ D by omega)
    have h4 : x / D ≤ D * (x / D) := by
      have := Int.mul_le_mul_of_nonneg_right hD h3
      omega
    omega
  · have h5 : x / D ≤ 0 := by
      rcases Int.lt_or_le 0 (x / D) with h6 | h6
      · have : D * 1 ≤ D * (x / D) := Int.mul_le_mul_of_nonneg_left h6 (by omega)
        omega
      · exact h6
    refine ⟨?_, h5⟩
    rcases Int.lt_or_le (x / D) x with h6 | h6
    · have h7 : D * (x / D) ≤ D * (x - 1) := Int.mul_le_mul_of_nonneg_left (by omega) (by omega)
      have h8 : D * x ≤ 1 * x := Int.mul_le_mul_of_nonpos_right hD (by omega)
      rw [Int.mul_sub, Int.mul_one] at h7
      omega
    · exact h6
/-- the average behind a packet, where nothing overflows -/
theorem av_eq (q0 q1 now time c6 c7 c8 D : Int) (hD : (2 : Int) ^ c6.toNat = D) (h1 : 1 ≤ D) (b0 : 0 ≤ q0 ∧ q0 ≤ 288230376151711744) (b1 : -1099511627776 ≤ q1 ∧ q1 ≤ 1099511627776) (b2 : 0 ≤ now ∧ now ≤ 288230376151711744) (b3 : 0 ≤ time ∧ time ≤ 1099511627776) :
    avV q0 q1 now time c6 c7 c8 = mx c7 (mn (q1 + (now - q0 - time - q1) / D) c8) := by
  unfold avV
  have hb := div_bd (now - q0 - time - q1) D h1
  have hb2 : -576460752303423488 ≤ (now - q0 - time - q1) / D ∧ (now - q0 - time - q1) / D ≤ 576460752303423488 := by
    rcases Int.le_total 0 (now - q0 - time - q1) with h | h
    · have := hb.1 h; omega
    · have := hb.2 h; omega
  rw [hD, sub_id (a := now) (by omega) (by omega) (by omega), sub_id (a := now - q0) (by omega) (by omega) (by omega), sub_id (a := now - q0 - time) (by omega) (by omega) (by omega), add_id (by omega) (by omega) (by omega)]
theorem mx_neg {c7 x c8 : Int} (h : mx c7 (mn x c8) < 0) (h8 : 0 ≤ c8) : x < 0 ∧ c7 < 0 := by
  unfold mx mn at h
  split at h <;> split at h <;> omega
theorem mx_nonneg {c7 x c8 : Int} (h : 0 ≤ x) (h8 : 0 ≤ c8) : 0 ≤ mx c7 (mn x c8) := by
  unfold mx mn
  split <;> split <;> omega
theorem mx_one {c7 c8 : Int} (h : c7 < 0) (h8 : 0 ≤ c8) : mx c7 (mn (-1) c8) = -1 := by
  unfold mx mn
  split <;> split <;> omega
/-- the three states -/
theorem waits_low (a0 a1 a2 late c6 c7 c8 D av : Int) (hD : (2 : Int) ^ c6.toNat = D) (h1 : 1 ≤ D ∧ D ≤ 65536) (x7 : -1099511627776 ≤ c7 ∧ c7 ≤ 0) (x8 : 0 ≤ c8 ∧ c8 ≤ 1099511627776)
    (b0 : 0 ≤ a0 ∧ a0 ≤ 1099511627776) (b1 : 0 ≤ a1 ∧ a1 ≤ 1099511627776) (b2 : 0 ≤ a2 ∧ a2 ≤ 1099511627776) (b3 : 0 ≤ late ∧ late ≤ 1099511627776)
    (ha : avV a0 c8 (a0 + a2) a1 c6 c7 c8 = av) (hn : av < 0) :
    ∃ q2, addV (a0 + a2) (addV a1 (-av * (D - 1))) = q2 ∧ a0 + a2 < q2 ∧ q2 ≤ 144115188075855872 ∧ 0 ≤ avV (a0 + a2) av (q2 + late) a1 c6 c7 c8 ∧ avV (a0 + a2) av (q2 - 1) a1 c6 c7 c8 = -1 ∧ 0 < addV (q2 - 1) (addV a1 (-(-1) * (D - 1))) := by
  have e := av_eq a0 c8 (a0 + a2) a1 c6 c7 c8 D hD h1.1 (by omega) (by omega) (by omega) (by omega)
  rw [ha] at e
  have hm := mx_mn (x := c8 + (a0 + a2 - a0 - a1 - c8) / D) (lo := c7) (hi := c8) (by omega)
  rw [← e] at hm
  have hx := mx_neg (e ▸ hn) x8.1
  have ha1 : 1 ≤ a1 := by
    rcases Int.lt_or_le a1 1 with h | h
    · exfalso
      have hb := div_bd (a0 + a2 - a0 - a1 - c8) D h1.1
      rcases Int.le_total 0 (a0 + a2 - a0 - a1 - c8) with h2 | h2
      · have := hb.1 h2; omega
      · have := hb.2 h2; omega
    · exact h
  have hP0 : 0 ≤ -av * (D - 1) := Int.mul_nonneg (by omega) (by omega)
  have hP1 : -av * (D - 1) ≤ 1099511627776 * 65535 := Int.mul_le_mul (by omega) (by omega) (by omega) (by omega)
  have hPD : -av * D = -av * (D - 1) + -av := by rw [Int.mul_sub, Int.mul_one]; omega
  generalize -av * (D - 1) = P at hP0 hP1 hPD
  have e2 : addV (a0 + a2) (addV a1 P) = a0 + a2 + (a1 + P) := by
    rw [add_id (a := a1) (by omega) (by omega) (by omega), add_id (by omega) (by omega) (by omega)]
  refine ⟨_, e2, by omega, by omega, ?_, ?_, ?_⟩
  · rw [av_eq (a0 + a2) av _ a1 c6 c7 c8 D hD h1.1 (by omega) (by omega) (by omega) (by omega)]
    rw [show a0 + a2 + (a1 + P) + late - (a0 + a2) - a1 - av = late + -av * D by omega, Int.add_mul_ediv_right _ _ (by omega)]
    have := (div_bd late D h1.1).1 b3.1
    exact mx_nonneg (by omega) x8.1
  · rw [av_eq (a0 + a2) av _ a1 c6 c7 c8 D hD h1.1 (by omega) (by omega) (by omega) (by omega)]
    rw [show a0 + a2 + (a1 + P) - 1 - (a0 + a2) - a1 - av = -1 + -av * D by omega, Int.add_mul_ediv_right _ _ (by omega)]
    have h4 : (-1 : Int) / D = -1 := by
      have h5 := Int.mul_ediv_add_emod (-1) D
      have h6 := Int.emod_nonneg (-1) (show D ≠ 0 by omega)
      have h7 := (div_bd (-1) D h1.1).2 (by omega)
      rcases Int.lt_or_le (-1 / D) 0 with h8 | h8
      · omega
      · have : -1 / D = 0 := by omega
        rw [this, Int.mul_zero] at h5; omega
    rw [h4, show av + (-1 + -av) = -1 by omega]
    exact mx_one hx.2 x8.1
  · rw [show -(-1 : Int) * (D - 1) = D - 1 by omega, add_id (a := a1) (by omega) (by omega) (by omega), add_id (by omega) (by omega) (by omega)]
    omega
theorem idleWaits_calls (c0 c1 : Int) (c2 : Nat) (c3 c4 c5 c6 c7 c8 : Int) (c9 c10 : Bool) (a0 a1 a2 late : Int) (w : World) (wc0 : (Lit.int .i64 c0).wf = true) (wc1 : (Lit.int .i64 c1).wf = true) (wc2 : FloatKind.f64.has c2) (wc3 : (Lit.int .i64 c3).wf = true) (wc4 : (Lit.int .i64 c4).wf = true) (wc5 : (Lit.int .i64 c5).wf = true) (wc6 : (Lit.int .i64 c6).wf = true) (wc7 : (Lit.int .i64 c7).wf = true) (wc8 : (Lit.int .i64 c8).wf = true) (wa0 : (Lit.int .i64 a0).wf = true) (wa1 : (Lit.int .i64 a1).wf = true) (wa2 : (Lit.int .i64 a2).wf = true) (wl : (Lit.int .i64 late).wf = true) :
    Calls Try.prog 13 #[.agg #[.int .i64 c0, .int .i64 c1, .float .f64 c2, .int .i64 c3, .int .i64 c4, .int .i64 c5, .int .i64 c6, .int .i64 c7, .int .i64 c8, .bool c9, .bool c10], .agg #[.int .i64 a0, .int .i64 a1, .int .i64 a2], .int .i64 late] w fun e w' => e = .returned (.bool true) ∧ Below w.heap.size w w' := by
  have h2 : c2 < 18446744073709551616 := wc2
  rcases hl0 : decide (a0 < 0) with _ | _
  case true => exact IdleWW.bad_0lo c0 c1 c2 c3 c4 c5 c6 c7 c8 c9 c10 a0 a1 a2 late w hl0 lives_calls
  rcases hm0 : decide (1099511627776 < a0) with _ | _
  case true => exact IdleWW.bad_0hi c0 c1 c2 c3 c4 c5 c6 c7 c8 c9 c10 a0 a1 a2 late w hl0 hm0 lives_calls
  rcases hl1 : decide (a1 < 0) with _ | _
  case true => exact IdleWW.bad_1lo c0 c1 c2 c3 c4 c5 c6 c7 c8 c9 c10 a0 a1 a2 late w hl0 hm0 hl1 lives_calls
  rcases hm1 : decide (1099511627776 < a1) with _ | _
  case true => exact IdleWW.bad_1hi c0 c1 c2 c3 c4 c5 c6 c7 c8 c9 c10 a0 a1 a2 late w hl0 hm0 hl1 hm1 lives_calls
  rcases hl2 : decide (a2 < 0) with _ | _
  case true => exact IdleWW.bad_2lo c0 c1 c2 c3 c4 c5 c6 c7 c8 c9 c10 a0 a1 a2 late w hl0 hm0 hl1 hm1 hl2 lives_calls
  rcases hm2 : decide (1099511627776 < a2) with _ | _
  case true => exact IdleWW.bad_2hi c0 c1 c2 c3 c4 c5 c6 c7 c8 c9 c10 a0 a1 a2 late w hl0 hm0 hl1 hm1 hl2 hm2 lives_calls
  have hr : ∀ w, Calls Try.prog 88 #[.agg #[.int .i64 c0, .int .i64 c1, .float .f64 c2, .int .i64 c3, .int .i64 c4, .int .i64 c5, .int .i64 c6, .int .i64 c7, .int .i64 c8, .bool c9, .bool c10]] w fun e w' => e = .returned (.int .i64 (crv c0 c1 c2 c3 c4 c5 c6 c7 c8)) ∧ Below w.heap.size w w' := fun w =>
    (class_Right.calls 4 c0 c1 c2 c3 c4 c5 c6 c7 c8 c9 c10 _ w (right_f 4 (by decide) c0 c1 c2 c3 c4 c5 c6 c7 c8 c9 c10 h2)).mono fun e w' h => ⟨h.1, by first | exact h.2 | exact h.2.below⟩
  rcases hc : okc c0 c1 c2 c3 c4 c5 c6 c7 c8 with _ | _
  · exact IdleWW.wrong c0 c1 c2 c3 c4 c5 c6 c7 c8 c9 c10 a0 a1 a2 late _ w hl0 hm0 hl1 hm1 hl2 hm2 hr (bne_iff_ne.2 (of_decide_eq_false hc)) lives_calls
  have hz : crv c0 c1 c2 c3 c4 c5 c6 c7 c8 = 0 := of_decide_eq_true hc
  rw [hz] at hr
  rcases hl3 : decide (late < 0) with _ | _
  case true => exact IdleWW.late0 c0 c1 c2 c3 c4 c5 c6 c7 c8 c9 c10 a0 a1 a2 late 0 w hl0 hm0 hl1 hm1 hl2 hm2 hr hl3 lives_calls
  rcases hm3 : decide (1099511627776 < late) with _ | _
  case true => exact IdleWW.late1 c0 c1 c2 c3 c4 c5 c6 c7 c8 c9 c10 a0 a1 a2 late 0 w hl0 hm0 hl1 hm1 hl2 hm2 hr hl3 hm3 lives_calls
  have g0 := of_decide_eq_false hl0; have g1 := of_decide_eq_false hl1; have g2 := of_decide_eq_false hl2; have g3 := of_decide_eq_false hl3
  have k0 := of_decide_eq_false hm0; have k1 := of_decide_eq_false hm1; have k2 := of_decide_eq_false hm2; have k3 := of_decide_eq_false hm3
  obtain ⟨⟨w0, w1⟩, x7, x8⟩ := okc_in c0 c1 c2 c3 c4 c5 c6 c7 c8 hc
  obtain ⟨D, hD⟩ : ∃ D, (2 : Int) ^ c6.toNat = D := ⟨_, rfl⟩
  have hp := hD ▸ pow_bd c6 w0 w1
  have wr : ∀ x : Int, -9223372036854775808 ≤ x → x < 9223372036854775808 → wrap64 x = x ∧ IntKind.i64.wrap x = x := fun x h h' => ⟨ewr ⟨h, h'⟩, (i64_w x).trans (ewr ⟨h, h'⟩)⟩
  have hn : ∀ w, Calls Try.prog 90 #[.agg #[.int .i64 c0, .int .i64 c1, .float .f64 c2, .int .i64 c3, .int .i64 c4, .int .i64 c5, .int .i64 c6, .int .i64 c7, .int .i64 c8, .bool c9, .bool c10], .int .i64 a0] w fun e w' => e = .returned (.agg #[.int .i64 a0, .int .i64 c8, .int .i64 0]) ∧ Below w.heap.size w w' := fun w => by
    have := (idle_New.calls 100 c0 c1 c2 c3 c4 c5 c6 c7 c8 c9 c10 a0 _ _ _ w (new_f 100 (by decide) c0 c1 c2 c3 c4 c5 c6 c7 c8 c9 c10 a0 h2 true hc)).mono fun e w' h => (⟨h.1, by first | exact h.2 | exact h.2.below⟩ : _ ∧ Below w.heap.size w w')
    have e : nv0 true a0 = a0 := (if_pos rfl).trans (hd_id (by omega))
    rw [e] at this
    exact this
  have ss : ∀ q0 q1 q2 now : Int, 0 ≤ now → now ≤ 288230376151711744 → ∀ w, Calls Try.prog 89 #[.agg #[.int .i64 q0, .int .i64 q1, .int .i64 q2], .agg #[.int .i64 c0, .int .i64 c1, .float .f64 c2, .int .i64 c3, .int .i64 c4, .int .i64 c5, .int .i64 c6, .int .i64 c7, .int .i64 c8, .bool c9, .bool c10], .int .i64 a1, .int .i64 now] w fun e w' => e = .returned (.agg #[.int .i64 now, .int .i64 (avV q0 q1 now a1 c6 c7 c8), .int .i64 (if avV q0 q1 now a1 c6 c7 c8 < 0 then addV now (addV a1 (-(avV q0 q1 now a1 c6 c7 c8) * (D - 1))) else 0)]) ∧ Below w.heap.size w w' := fun q0 q1 q2 now b0 b1 w => by
    have := sent_calls q0 q1 q2 c0 c1 c2 c3 c4 c5 c6 c7 c8 c9 c10 a1 now h2 true hc w
    have e0 : sv0 true q0 now = now := (if_pos rfl).trans (hd_id (by omega))
    have e1 : sv1 true q0 q1 now a1 c6 c7 c8 = avV q0 q1 now a1 c6 c7 c8 := if_pos rfl
    have e2 : sv2 true q0 q1 q2 now a1 c6 c7 c8 = if avV q0 q1 now a1 c6 c7 c8 < 0 then addV now (addV a1 (-(avV q0 q1 now a1 c6 c7 c8) * (D - 1))) else 0 := by unfold sv2; rw [if_pos rfl, hD]
    rw [e0, e1, e2] at this
    exact this
  have ov : ∀ (q0 q1 q2 now : Int) (b : Bool), decide (now < q2) = b → ∀ w, Calls Try.prog 91 #[.agg #[.int .i64 q0, .int .i64 q1, .int .i64 q2], .int .i64 now] w fun e w' => e = .returned (.bool b) ∧ Below w.heap.size w w' := fun q0 q1 q2 now b hb w =>
    (idle_Over.calls q0 q1 q2 now _ w (hb ▸ over_f q0 q1 q2 now)).mono fun e w' h => ⟨h.1, by first | exact h.2 | exact h.2.below⟩
  have wn := wr (a0 + a2) (by omega) (by omega)
  obtain ⟨av, ha⟩ : ∃ av, avV a0 c8 (a0 + a2) a1 c6 c7 c8 = av := ⟨_, rfl⟩
  have hb : c7 ≤ av ∧ av ≤ c8 := by
    rw [← ha]; unfold avV; exact mx_mn (by omega)
  have hs := ss a0 c8 0 (a0 + a2) (by omega) (by omega)
  rw [ha] at hs
  by_cases hv : av < 0
  · rw [if_pos hv] at hs
    obtain ⟨q2, e2, y0, y1, y2, y3, y4⟩ := waits_low a0 a1 a2 late c6 c7 c8 D av hD hp x7 x8 (by omega) (by omega) (by omega) (by omega) ha hv
    rw [e2] at hs
    have wt := wr (q2 + late) (by omega) (by omega)
    have wu := wr (q2 - 1) (by omega) (by omega)
    have ht := ss (a0 + a2) av q2 (q2 + late) (by omega) (by omega)
    rw [if_neg (by omega)] at ht
    have hu := ss (a0 + a2) av q2 (q2 - 1) (by omega) (by omega)
    rw [y3, if_pos (by decide)] at hu
    exact IdleWW.way_lo c0 c1 c2 c3 c4 c5 c6 c7 c8 c9 c10 a0 a1 a2 late _ _ _ _ _ _ _ _ _ _ _ _ _ _ _ w hl0 hm0 hl1 hm1 hl2 hm2 hr hl3 hm3 lives_calls hn wn.1 wn.2 hs (ov _ _ _ _ true (decide_eq_true (by omega))) (decide_eq_false (by omega)) (decide_eq_false (by omega)) wt.1 wt.2 wu.1 wu.2 ht (ov _ _ _ _ false (decide_eq_false (by omega))) hu (decide_eq_false (by omega)) (decide_eq_true (by decide)) (decide_eq_true y4) (decide_eq_true hv) (decide_eq_false (by omega)) (decide_eq_true (by omega))
  · rw [if_neg hv] at hs
    exact IdleWW.way_hi c0 c1 c2 c3 c4 c5 c6 c7 c8 c9 c10 a0 a1 a2 late _ _ _ _ _ _ w hl0 hm0 hl1 hm1 hl2 hm2 hr hl3 hm3 lives_calls hn wn.1 wn.2 hs (ov _ _ _ _ false (decide_eq_false (by omega))) (decide_eq_false (by omega)) (decide_eq_false (by omega)) (decide_eq_false hv) (decide_eq_true (by omega))
end Go.Proofs.Ytclfambjkolckaa.Pure
