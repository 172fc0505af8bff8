/- octets.Reader's Var, walked. -/
import Derived.Test.YtlnnghbbjbimoaaReader3
import Derived.Deep.LoopGhost
import Derived.Laws.BitsLemmas
import Derived.Laws.Bits64
namespace Go.Proofs.Ytlnnghbbjbimoaa.Reader
open Go Go.RowKit Go.Proofs.Ytlnnghbbjbimoaa.Tries Go.Proofs.YtlnnghbbjbimoaaW.PrintWords Go.Proofs.YtlnnghbbjbimoaaW.PrintLast Go.Proofs.YtlnnghbbjbimoaaW.PrintMore
set_option linter.unusedVariables false
set_option linter.unusedSimpArgs false
theorem spn_le (s : ByteArray) (a : Int) : ∀ (d : Nat) (k : Int), 0 ≤ k → 0 < spn s a d k → k < spn s a d k ∧ spn s a d k ≤ k + d ∧ spn s a d k ≤ s.size - a
  | 0, k, _, h => by simp [spn] at h
  | d + 1, k, h0, h => by
    simp only [spn] at h ⊢
    by_cases h1 : (s.size : Int) - a ≤ k
    · rw [if_pos h1] at h; omega
    · rw [if_neg h1] at h ⊢
      by_cases h2 : bt s (a + k) < 128
      · rw [if_pos h2]; omega
      · rw [if_neg h2] at h ⊢
        have := spn_le s a d (k + 1) (by omega) h
        omega
/-- the number out of i bytes, the last first -/
def vl (q : ByteArray) : Nat → Int → Int
  | 0, x => x
  | i + 1, x => vl q i (x * 128 + bt q i % 128)
def fits (q : ByteArray) : Nat → Int → Prop
  | 0, x => 0 ≤ x ∧ x < 18446744073709551616
  | i + 1, x => 0 ≤ x ∧ x < 144115188075855872 ∧ fits q i (x * 128 + bt q i % 128)
theorem fits_vl (q : ByteArray) : ∀ (i : Nat) (x : Int), fits q i x → 0 ≤ vl q i x ∧ vl q i x < 18446744073709551616
  | 0, x, h => h
  | i + 1, x, h => fits_vl q i _ h.2.2
theorem fits_of (q : ByteArray) : ∀ (i : Nat) (x : Int), 0 ≤ x → i ≤ 9 → (x + 1) * 128 ^ i ≤ 18446744073709551616 → fits q i x
  | 0, x, h0, _, h => by simp at h; exact ⟨h0, by omega⟩
  | i + 1, x, h0, hi, h => by
    have hb := bt_r q i
    have hp : (0 : Int) < 128 ^ i := Int.pow_pos (by decide)
    have e : (x + 1) * 128 ^ (i + 1) = (x * 128 + 128) * 128 ^ i := by rw [Int.pow_succ]; grind
    rw [e] at h
    have h1 : x * 128 + 128 ≤ (x * 128 + 128) * 128 ^ i := by
      have := Int.mul_le_mul_of_nonneg_left (show (1 : Int) ≤ 128 ^ i by omega) (show 0 ≤ x * 128 + 128 by omega)
      simpa using this
    refine ⟨h0, by omega, fits_of q i _ (by omega) (by omega) ?_⟩
    refine Int.le_trans (Int.mul_le_mul_of_nonneg_right (show x * 128 + bt q i % 128 + 1 ≤ x * 128 + 128 by omega) (by omega)) h
theorem fits_q (q : ByteArray) (n : Nat) (hn : 0 < n ∧ n ≤ 10) (hc : n < 10 ∨ bt q ((9 : Nat) : Int) < 2) : fits q n 0 := by
  obtain ⟨m, rfl⟩ : ∃ m, n = m + 1 := ⟨n - 1, by omega⟩
  have hb := bt_r q m
  refine ⟨by omega, by omega, fits_of q m _ (by omega) (by omega) ?_⟩
  have ht : ∀ p : Fin 10, (128 : Int) ^ (p : Nat) * 128 ≤ 18446744073709551616 * (if (p : Nat) = 9 then 64 else 1) := by decide
  have := ht ⟨m, by omega⟩
  simp only at this
  have hp : (0 : Int) < 128 ^ m := Int.pow_pos (by decide)
  rcases Nat.lt_or_ge m 9 with h9 | h9
  · rw [if_neg (by omega)] at this
    have := Int.mul_le_mul_of_nonneg_right (show 0 * 128 + bt q m % 128 + 1 ≤ 128 by omega) (show (0 : Int) ≤ 128 ^ m by omega)
    omega
  · have h : m = 9 := by omega
    subst h
    have h2 : bt q ((9 : Nat) : Int) < 2 := by omega
    have : (0 * 128 + bt q ((9 : Nat) : Int) % 128 + 1) ≤ 2 := by omega
    have := Int.mul_le_mul_of_nonneg_right this (show (0 : Int) ≤ 128 ^ 9 by decide)
    exact Int.le_trans this (by decide)
def uz (x : Int) : Int := if x % 2 = 0 then x / 2 else -(x / 2) - 1
theorem xor_0 (y : Int) (h : 0 ≤ y ∧ y < 9223372036854775808) : bits .xor .i64 y 0 = y := by
  obtain ⟨m, rfl⟩ := Int.eq_ofNat_of_zero_le h.1
  have e : bits .xor .i64 (m : Int) 0 = IntKind.i64.wrap (((BitVec.ofInt 64 (m : Int) ^^^ BitVec.ofInt 64 0).toNat : Nat) : Int) := rfl
  rw [e]
  have : (BitVec.ofInt 64 (m : Int) ^^^ BitVec.ofInt 64 0).toNat = m := by simp; omega
  rw [this]; simp [IntKind.wrap, IntKind.bits, IntKind.signed]; omega
theorem xor_1 (y : Int) (h : 0 ≤ y ∧ y < 9223372036854775808) : bits .xor .i64 y (-1) = -y - 1 := by
  obtain ⟨m, rfl⟩ := Int.eq_ofNat_of_zero_le h.1
  have e : bits .xor .i64 (m : Int) (-1) = IntKind.i64.wrap (((BitVec.ofInt 64 (m : Int) ^^^ BitVec.ofInt 64 (-1)).toNat : Nat) : Int) := rfl
  rw [e]
  have hm : BitVec.ofInt 64 (-1) = BitVec.allOnes 64 := by decide
  have : (BitVec.ofInt 64 (m : Int) ^^^ BitVec.ofInt 64 (-1)).toNat = 18446744073709551615 - m := by
    rw [hm, BitVec.xor_allOnes, BitVec.toNat_not, BitVec.ofInt_natCast, BitVec.toNat_ofNat]
    omega
  rw [this]; simp [IntKind.wrap, IntKind.bits, IntKind.signed]; omega
theorem and1 (x : Int) (h : 0 ≤ x ∧ x < 18446744073709551616) : bits .and .u64 x 1 = x % 2 := bits_mask .u64 64 (by decide) (fun n h0 h1 => by rw [IntKind.wrap_u64]; omega) 1 (by decide) x h.1 (by omega)
theorem and127 (x : Int) (h : 0 ≤ x ∧ x ≤ 255) : bits .and .u8 x 127 = x % 128 := bits_mask .u8 8 (by decide) (fun n h0 h1 => by simp [IntKind.wrap, IntKind.bits, IntKind.signed]; omega) 7 (by decide) x h.1 (by omega)
theorem or_7 (x b : Int) (hx : 0 ≤ x ∧ x < 144115188075855872) (hb : 0 ≤ b ∧ b < 128) : bits .or .u64 (x * 128) b = x * 128 + b :=
  bits_join .u64 64 (by decide) (fun n h0 h1 => by rw [IntKind.wrap_u64]; omega) 7 (x * 128) b (by omega) (by omega) (by omega) (by omega) (by omega) (by omega)
set_option maxRecDepth 100000 in
set_option maxHeartbeats 400000 in
theorem var_a (g : Nat) (s q : ByteArray) (a : Int) (n : Nat) (w : World) (h : Rd w g s a) (ha : 0 ≤ a ∧ a ≤ s.size) (hs : s.size < 4611686018427387904) (hn : spn s a 10 0 = n) (hq : s.extract a.toNat (a + (n : Int)).toNat = q) (hz : q.size = n) (h0 : 0 < n ∧ n ≤ 10 ∧ a + n ≤ s.size) (h1 : n = 1) :
    Calls Try.prog 62 #[.pointer (some ⟨g, 0, none⟩)] w fun e w' => e = .returned (.int .i64 (uz (vl q n 0))) ∧ Rd w' g s (a + n) ∧ w.grownBy w' (some g) := by
  have H := Lib.hid h; have HN := Lib.hid hn; clear h hn
  have hi : 0 ≤ (n : Int) - 1 ∧ (n : Int) - 1 < (q.size : Int) := by omega
  have hzi : (q.size : Int) = n := by omega
  have hp : n - 1 < q.size := by omega
  have hi2 : 1 ≤ (n : Int) ∧ (n : Int) - 1 < n := by omega
  have hi3 : 0 < n ∧ n ≤ 20 := by omega
  have k0 : decide ((n : Int) < 10) = true := decide_eq_true (by omega)
  have k1 : ((n : Int) == 1) = true := by simp; omega
  have HF := Lib.hid (fits_q q n ⟨h0.1, h0.2.1⟩ (by omega))
  have HX := Lib.hid h1; have HP : Hid (0 < (n : Int)) := Lib.hid (by omega); have HT : Hid (0 ≤ (n : Int) ∧ (n : Int) ≤ s.size - a) := Lib.hid (by omega); clear h1 h0
  go_enter Try.func62, Try.ntmps62
  go_wp2_with (first | (go_at_call 120; refine (span_all g s a _ H.out ha hs).mono ?_; rintro e w1 ⟨hv1, hv2, hv3, hb⟩; rw [HN.out] at hv1 hv2 hv3; obtain rfl := hv1 HP.out; have H1 := Lib.hid (H.out.below hb); have B1 := Lib.hid (grown_below hb (some g)); clear hv1 hv2 hv3 hb) | (go_at_call 104; refine (take_ok g s a (n : Int) _ H1.out ha hs HT.out).mono ?_; rintro e w2 ⟨rfl, hr, hg⟩; have R2 := Lib.hid hr; have G2 := Lib.hid (B1.out.trans hg); clear hr hg) | (go_at_call 103; with_reducible refine (need_ok _ _ _).mono ?_; rintro e _ ⟨rfl, rfl⟩))
  go_loopg [4, 6] n (fun k x i wr => ∃ (x' i' : Int), x = .int .u64 x' ∧ i = .int .i64 i' ∧ Hid (i' = (k : Int) - 1) ∧ Hid (fits q k x') ∧ Hid (vl q k x' = vl q n 0) ∧ Hid (k ≤ n) ∧ wr = w2)
  case atStart => exact ⟨0, (n : Int) - 1, rfl, rfl, Lib.hid rfl, HF, Lib.hid rfl, Lib.hid (Nat.le_refl _), rfl⟩
  case round =>
    obtain ⟨x', i', rfl, rfl, HI, HFI, HVI, HKN, rfl⟩ := hrel
    rcases gk with _ | m
    · have h9 : decide (0 ≤ i') = false := decide_eq_false (by have := HI.out; omega)
      have hx := HFI.out
      have hx : 0 ≤ x' ∧ x' < 18446744073709551616 := hx
      have hv : x' = vl q n 0 := HVI.out
      have e1 := and1 x' hx
      have HY := Lib.hid hx; have HE1 := Lib.hid e1; have HV := Lib.hid hv; clear hx e1 hv
      go_wp2
      go_ret
      refine ⟨?_, R2.out, G2.out⟩
      have hx := HY.out
      rw [← HV.out]
      have w1 : wrap64 (x' / 2) = x' / 2 := by unfold wrap64; omega
      have e2 : bits BinOp.xor IntKind.i64 (wrap64 (x' / 2)) (wrap64 (-wrap64 (bits BinOp.and IntKind.u64 x' 1))) = uz x' := by
        rw [HE1.out, w1]
        unfold uz
        rcases (show x' % 2 = 0 ∨ x' % 2 = 1 by omega) with h | h
        · rw [h, if_pos rfl, show wrap64 (-wrap64 0) = 0 from by kernel_rfl, xor_0 _ (by omega)]
        · rw [h, if_neg (by decide), show wrap64 (-wrap64 1) = -1 from by kernel_rfl, xor_1 _ (by omega)]
      first | exact congrArg (fun z => Ending.returned (Value.int IntKind.i64 z)) e2 | (simp; exact e2)
    · obtain rfl : i' = (m : Int) := by have := HI.out; omega
      have h9 : decide (0 ≤ (m : Int)) = true := decide_eq_true (by omega)
      have hb := bt_r q m
      have hm : (m : Int) < (q.size : Int) := by have := HKN.out; omega
      have hf := HFI.out
      have hidx : 0 ≤ (m : Int) ∧ (m : Int) < (n : Int) := by omega
      have hbt : bt q (m : Int) = ((q[m]'(by omega)).toNat : Int) := by
        unfold bt; rw [dif_pos (by omega)]; simp
      have hx : bits .or .u64 (IntKind.u64.wrap (x' * 128)) (IntKind.u64.wrap (bits .and .u8 ((q[m]'(by omega)).toNat : Int) 127)) = x' * 128 + bt q m % 128 := by
        rw [← hbt, and127 _ hb, show IntKind.u64.wrap (bt q m % 128) = bt q m % 128 from by rw [IntKind.wrap_u64]; omega, show IntKind.u64.wrap (x' * 128) = x' * 128 from by rw [IntKind.wrap_u64]; have := hf.1; have := hf.2.1; omega, or_7 _ _ ⟨hf.1, hf.2.1⟩ (by omega)]
      have HX := Lib.hid hx; have HF1 := Lib.hid hf.2.2; clear hx hf hbt hb
      go_wp2
      go_roundg m
      case measure => omega
      case rel => exact ⟨x' * 128 + bt q m % 128, (m : Int) - 1, by rw [HX.out], rfl, Lib.hid rfl, HF1, Lib.hid HVI.out, Lib.hid (by have := HKN.out; omega), rfl⟩
set_option maxRecDepth 100000 in
set_option maxHeartbeats 400000 in
theorem var_b (g : Nat) (s q : ByteArray) (a : Int) (n : Nat) (w : World) (h : Rd w g s a) (ha : 0 ≤ a ∧ a ≤ s.size) (hs : s.size < 4611686018427387904) (hn : spn s a 10 0 = n) (hq : s.extract a.toNat (a + (n : Int)).toNat = q) (hz : q.size = n) (h0 : 0 < n ∧ n ≤ 10 ∧ a + n ≤ s.size) (h1 : 1 < n ∧ n < 10 ∧ 0 < bt q ((n : Int) - 1)) :
    Calls Try.prog 62 #[.pointer (some ⟨g, 0, none⟩)] w fun e w' => e = .returned (.int .i64 (uz (vl q n 0))) ∧ Rd w' g s (a + n) ∧ w.grownBy w' (some g) := by
  have H := Lib.hid h; have HN := Lib.hid hn; clear h hn
  have hi : 0 ≤ (n : Int) - 1 ∧ (n : Int) - 1 < (q.size : Int) := by omega
  have hzi : (q.size : Int) = n := by omega
  have hp : n - 1 < q.size := by omega
  have hi2 : 1 ≤ (n : Int) ∧ (n : Int) - 1 < n := by omega
  have hi3 : 0 < n ∧ n ≤ 20 := by omega
  have k0 : decide ((n : Int) < 10) = true := decide_eq_true (by omega)
  have k1 : ((n : Int) == 1) = false := by simp; omega
  have hls : bt q ((n : Int) - 1) = ((q[n - 1]'hp).toNat : Int) := by unfold bt; rw [dif_pos (by omega)]; simp
  rw [hls] at h1
  have k2 : decide (0 < (q[n - 1]'hp).toNat) = true := decide_eq_true (by omega)
  have HF := Lib.hid (fits_q q n ⟨h0.1, h0.2.1⟩ (by omega))
  have HX := Lib.hid h1; have HP : Hid (0 < (n : Int)) := Lib.hid (by omega); have HT : Hid (0 ≤ (n : Int) ∧ (n : Int) ≤ s.size - a) := Lib.hid (by omega); clear h1 h0
  go_enter Try.func62, Try.ntmps62
  go_wp2_with (first | (go_at_call 120; refine (span_all g s a _ H.out ha hs).mono ?_; rintro e w1 ⟨hv1, hv2, hv3, hb⟩; rw [HN.out] at hv1 hv2 hv3; obtain rfl := hv1 HP.out; have H1 := Lib.hid (H.out.below hb); have B1 := Lib.hid (grown_below hb (some g)); clear hv1 hv2 hv3 hb) | (go_at_call 104; refine (take_ok g s a (n : Int) _ H1.out ha hs HT.out).mono ?_; rintro e w2 ⟨rfl, hr, hg⟩; have R2 := Lib.hid hr; have G2 := Lib.hid (B1.out.trans hg); clear hr hg) | (go_at_call 103; with_reducible refine (need_ok _ _ _).mono ?_; rintro e _ ⟨rfl, rfl⟩))
  go_loopg [4, 6] n (fun k x i wr => ∃ (x' i' : Int), x = .int .u64 x' ∧ i = .int .i64 i' ∧ Hid (i' = (k : Int) - 1) ∧ Hid (fits q k x') ∧ Hid (vl q k x' = vl q n 0) ∧ Hid (k ≤ n) ∧ wr = w2)
  case atStart => exact ⟨0, (n : Int) - 1, rfl, rfl, Lib.hid rfl, HF, Lib.hid rfl, Lib.hid (Nat.le_refl _), rfl⟩
  case round =>
    obtain ⟨x', i', rfl, rfl, HI, HFI, HVI, HKN, rfl⟩ := hrel
    rcases gk with _ | m
    · have h9 : decide (0 ≤ i') = false := decide_eq_false (by have := HI.out; omega)
      have hx := HFI.out
      have hx : 0 ≤ x' ∧ x' < 18446744073709551616 := hx
      have hv : x' = vl q n 0 := HVI.out
      have e1 := and1 x' hx
      have HY := Lib.hid hx; have HE1 := Lib.hid e1; have HV := Lib.hid hv; clear hx e1 hv
      go_wp2
      go_ret
      refine ⟨?_, R2.out, G2.out⟩
      have hx := HY.out
      rw [← HV.out]
      have w1 : wrap64 (x' / 2) = x' / 2 := by unfold wrap64; omega
      have e2 : bits BinOp.xor IntKind.i64 (wrap64 (x' / 2)) (wrap64 (-wrap64 (bits BinOp.and IntKind.u64 x' 1))) = uz x' := by
        rw [HE1.out, w1]
        unfold uz
        rcases (show x' % 2 = 0 ∨ x' % 2 = 1 by omega) with h | h
        · rw [h, if_pos rfl, show wrap64 (-wrap64 0) = 0 from by kernel_rfl, xor_0 _ (by omega)]
        · rw [h, if_neg (by decide), show wrap64 (-wrap64 1) = -1 from by kernel_rfl, xor_1 _ (by omega)]
      first | exact congrArg (fun z => Ending.returned (Value.int IntKind.i64 z)) e2 | (simp; exact e2)
    · obtain rfl : i' = (m : Int) := by have := HI.out; omega
      have h9 : decide (0 ≤ (m : Int)) = true := decide_eq_true (by omega)
      have hb := bt_r q m
      have hm : (m : Int) < (q.size : Int) := by have := HKN.out; omega
      have hf := HFI.out
      have hidx : 0 ≤ (m : Int) ∧ (m : Int) < (n : Int) := by omega
      have hbt : bt q (m : Int) = ((q[m]'(by omega)).toNat : Int) := by
        unfold bt; rw [dif_pos (by omega)]; simp
      have hx : bits .or .u64 (IntKind.u64.wrap (x' * 128)) (IntKind.u64.wrap (bits .and .u8 ((q[m]'(by omega)).toNat : Int) 127)) = x' * 128 + bt q m % 128 := by
        rw [← hbt, and127 _ hb, show IntKind.u64.wrap (bt q m % 128) = bt q m % 128 from by rw [IntKind.wrap_u64]; omega, show IntKind.u64.wrap (x' * 128) = x' * 128 from by rw [IntKind.wrap_u64]; have := hf.1; have := hf.2.1; omega, or_7 _ _ ⟨hf.1, hf.2.1⟩ (by omega)]
      have HX := Lib.hid hx; have HF1 := Lib.hid hf.2.2; clear hx hf hbt hb
      go_wp2
      go_roundg m
      case measure => omega
      case rel => exact ⟨x' * 128 + bt q m % 128, (m : Int) - 1, by rw [HX.out], rfl, Lib.hid rfl, HF1, Lib.hid HVI.out, Lib.hid (by have := HKN.out; omega), rfl⟩
set_option maxRecDepth 100000 in
set_option maxHeartbeats 400000 in
theorem var_c (g : Nat) (s q : ByteArray) (a : Int) (n : Nat) (w : World) (h : Rd w g s a) (ha : 0 ≤ a ∧ a ≤ s.size) (hs : s.size < 4611686018427387904) (hn : spn s a 10 0 = n) (hq : s.extract a.toNat (a + (n : Int)).toNat = q) (hz : q.size = n) (h0 : 0 < n ∧ n ≤ 10 ∧ a + n ≤ s.size) (h1 : n = 10 ∧ bt q ((n : Int) - 1) < 2 ∧ 0 < bt q ((n : Int) - 1)) :
    Calls Try.prog 62 #[.pointer (some ⟨g, 0, none⟩)] w fun e w' => e = .returned (.int .i64 (uz (vl q n 0))) ∧ Rd w' g s (a + n) ∧ w.grownBy w' (some g) := by
  have H := Lib.hid h; have HN := Lib.hid hn; clear h hn
  have hi : 0 ≤ (n : Int) - 1 ∧ (n : Int) - 1 < (q.size : Int) := by omega
  have hzi : (q.size : Int) = n := by omega
  have hp : n - 1 < q.size := by omega
  have hi2 : 1 ≤ (n : Int) ∧ (n : Int) - 1 < n := by omega
  have hi3 : 0 < n ∧ n ≤ 20 := by omega
  have HF := Lib.hid (fits_q q n ⟨h0.1, h0.2.1⟩ (.inr (by obtain ⟨rfl, h2, _⟩ := h1; simpa using h2)))
  have k0 : decide ((n : Int) < 10) = false := decide_eq_false (by omega)
  have k1 : ((n : Int) == 1) = false := by simp; omega
  have hls : bt q ((n : Int) - 1) = ((q[n - 1]'hp).toNat : Int) := by unfold bt; rw [dif_pos (by omega)]; simp
  rw [hls] at h1
  have k2 : decide (0 < (q[n - 1]'hp).toNat) = true := decide_eq_true (by omega)
  have k3 : decide (((q[n - 1]'hp).toNat : Int) < 2) = true := decide_eq_true (by omega)
  have HX := Lib.hid h1; have HP : Hid (0 < (n : Int)) := Lib.hid (by omega); have HT : Hid (0 ≤ (n : Int) ∧ (n : Int) ≤ s.size - a) := Lib.hid (by omega); clear h1 h0
  go_enter Try.func62, Try.ntmps62
  go_wp2_with (first | (go_at_call 120; refine (span_all g s a _ H.out ha hs).mono ?_; rintro e w1 ⟨hv1, hv2, hv3, hb⟩; rw [HN.out] at hv1 hv2 hv3; obtain rfl := hv1 HP.out; have H1 := Lib.hid (H.out.below hb); have B1 := Lib.hid (grown_below hb (some g)); clear hv1 hv2 hv3 hb) | (go_at_call 104; refine (take_ok g s a (n : Int) _ H1.out ha hs HT.out).mono ?_; rintro e w2 ⟨rfl, hr, hg⟩; have R2 := Lib.hid hr; have G2 := Lib.hid (B1.out.trans hg); clear hr hg) | (go_at_call 103; with_reducible refine (need_ok _ _ _).mono ?_; rintro e _ ⟨rfl, rfl⟩))
  go_loopg [4, 6] n (fun k x i wr => ∃ (x' i' : Int), x = .int .u64 x' ∧ i = .int .i64 i' ∧ Hid (i' = (k : Int) - 1) ∧ Hid (fits q k x') ∧ Hid (vl q k x' = vl q n 0) ∧ Hid (k ≤ n) ∧ wr = w2)
  case atStart => exact ⟨0, (n : Int) - 1, rfl, rfl, Lib.hid rfl, HF, Lib.hid rfl, Lib.hid (Nat.le_refl _), rfl⟩
  case round =>
    obtain ⟨x', i', rfl, rfl, HI, HFI, HVI, HKN, rfl⟩ := hrel
    rcases gk with _ | m
    · have h9 : decide (0 ≤ i') = false := decide_eq_false (by have := HI.out; omega)
      have hx := HFI.out
      have hx : 0 ≤ x' ∧ x' < 18446744073709551616 := hx
      have hv : x' = vl q n 0 := HVI.out
      have e1 := and1 x' hx
      have HY := Lib.hid hx; have HE1 := Lib.hid e1; have HV := Lib.hid hv; clear hx e1 hv
      go_wp2
      go_ret
      refine ⟨?_, R2.out, G2.out⟩
      have hx := HY.out
      rw [← HV.out]
      have w1 : wrap64 (x' / 2) = x' / 2 := by unfold wrap64; omega
      have e2 : bits BinOp.xor IntKind.i64 (wrap64 (x' / 2)) (wrap64 (-wrap64 (bits BinOp.and IntKind.u64 x' 1))) = uz x' := by
        rw [HE1.out, w1]
        unfold uz
        rcases (show x' % 2 = 0 ∨ x' % 2 = 1 by omega) with h | h
        · rw [h, if_pos rfl, show wrap64 (-wrap64 0) = 0 from by kernel_rfl, xor_0 _ (by omega)]
        · rw [h, if_neg (by decide), show wrap64 (-wrap64 1) = -1 from by kernel_rfl, xor_1 _ (by omega)]
      first | exact congrArg (fun z => Ending.returned (Value.int IntKind.i64 z)) e2 | (simp; exact e2)
    · obtain rfl : i' = (m : Int) := by have := HI.out; omega
      have h9 : decide (0 ≤ (m : Int)) = true := decide_eq_true (by omega)
      have hb := bt_r q m
      have hm : (m : Int) < (q.size : Int) := by have := HKN.out; omega
      have hf := HFI.out
      have hidx : 0 ≤ (m : Int) ∧ (m : Int) < (n : Int) := by omega
      have hbt : bt q (m : Int) = ((q[m]'(by omega)).toNat : Int) := by
        unfold bt; rw [dif_pos (by omega)]; simp
      have hx : bits .or .u64 (IntKind.u64.wrap (x' * 128)) (IntKind.u64.wrap (bits .and .u8 ((q[m]'(by omega)).toNat : Int) 127)) = x' * 128 + bt q m % 128 := by
        rw [← hbt, and127 _ hb, show IntKind.u64.wrap (bt q m % 128) = bt q m % 128 from by rw [IntKind.wrap_u64]; omega, show IntKind.u64.wrap (x' * 128) = x' * 128 from by rw [IntKind.wrap_u64]; have := hf.1; have := hf.2.1; omega, or_7 _ _ ⟨hf.1, hf.2.1⟩ (by omega)]
      have HX := Lib.hid hx; have HF1 := Lib.hid hf.2.2; clear hx hf hbt hb
      go_wp2
      go_roundg m
      case measure => omega
      case rel => exact ⟨x' * 128 + bt q m % 128, (m : Int) - 1, by rw [HX.out], rfl, Lib.hid rfl, HF1, Lib.hid HVI.out, Lib.hid (by have := HKN.out; omega), rfl⟩
set_option maxRecDepth 100000 in
set_option maxHeartbeats 400000 in
theorem var_d (g : Nat) (s q : ByteArray) (a : Int) (n : Nat) (w : World) (h : Rd w g s a) (ha : 0 ≤ a ∧ a ≤ s.size) (hs : s.size < 4611686018427387904) (hn : spn s a 10 0 = n) (hq : s.extract a.toNat (a + (n : Int)).toNat = q) (hz : q.size = n) (h0 : 0 < n ∧ n ≤ 10 ∧ a + n ≤ s.size) (h1 : n = 10 ∧ 2 ≤ bt q ((n : Int) - 1)) :
    Calls Try.prog 62 #[.pointer (some ⟨g, 0, none⟩)] w fun e w' => e = .panicked (up 6) ∧ w.grownBy w' (some g) := by
  have H := Lib.hid h; have HN := Lib.hid hn; clear h hn
  have hi : 0 ≤ (n : Int) - 1 ∧ (n : Int) - 1 < (q.size : Int) := by omega
  have hzi : (q.size : Int) = n := by omega
  have hp : n - 1 < q.size := by omega
  have hi2 : 1 ≤ (n : Int) ∧ (n : Int) - 1 < n := by omega
  have hi3 : 0 < n ∧ n ≤ 20 := by omega
  have k0 : decide ((n : Int) < 10) = false := decide_eq_false (by omega)
  have hls : bt q ((n : Int) - 1) = ((q[n - 1]'hp).toNat : Int) := by unfold bt; rw [dif_pos (by omega)]; simp
  rw [hls] at h1
  have k3 : decide (((q[n - 1]'hp).toNat : Int) < 2) = false := decide_eq_false (by omega)
  have HX := Lib.hid h1; have HP : Hid (0 < (n : Int)) := Lib.hid (by omega); have HT : Hid (0 ≤ (n : Int) ∧ (n : Int) ≤ s.size - a) := Lib.hid (by omega); clear h1 h0
  go_enter Try.func62, Try.ntmps62
  go_wp2_with (first | (go_at_call 120; refine (span_all g s a _ H.out ha hs).mono ?_; rintro e w1 ⟨hv1, hv2, hv3, hb⟩; rw [HN.out] at hv1 hv2 hv3; obtain rfl := hv1 HP.out; have H1 := Lib.hid (H.out.below hb); have B1 := Lib.hid (grown_below hb (some g)); clear hv1 hv2 hv3 hb) | (go_at_call 104; refine (take_ok g s a (n : Int) _ H1.out ha hs HT.out).mono ?_; rintro e w2 ⟨rfl, hr, hg⟩; have R2 := Lib.hid hr; have G2 := Lib.hid (B1.out.trans hg); clear hr hg) | (go_at_call 103; with_reducible refine (need_ok _ _ _).mono ?_; rintro e _ ⟨rfl, rfl⟩) | (go_at_call 103; with_reducible refine (need_no _ 6 _ rfl).mono ?_; rintro e w9 ⟨rfl, hb9⟩; have B9 := Lib.hid hb9; clear hb9))
  simp [bodyPost]
  exact G2.out.trans (grown_below B9.out _)
set_option maxRecDepth 100000 in
set_option maxHeartbeats 400000 in
theorem var_e (g : Nat) (s q : ByteArray) (a : Int) (n : Nat) (w : World) (h : Rd w g s a) (ha : 0 ≤ a ∧ a ≤ s.size) (hs : s.size < 4611686018427387904) (hn : spn s a 10 0 = n) (hq : s.extract a.toNat (a + (n : Int)).toNat = q) (hz : q.size = n) (h0 : 0 < n ∧ n ≤ 10 ∧ a + n ≤ s.size) (h1 : 1 < n ∧ n < 10 ∧ bt q ((n : Int) - 1) = 0) :
    Calls Try.prog 62 #[.pointer (some ⟨g, 0, none⟩)] w fun e w' => e = .panicked (up 6) ∧ w.grownBy w' (some g) := by
  have H := Lib.hid h; have HN := Lib.hid hn; clear h hn
  have hi : 0 ≤ (n : Int) - 1 ∧ (n : Int) - 1 < (q.size : Int) := by omega
  have hzi : (q.size : Int) = n := by omega
  have hp : n - 1 < q.size := by omega
  have hi2 : 1 ≤ (n : Int) ∧ (n : Int) - 1 < n := by omega
  have hi3 : 0 < n ∧ n ≤ 20 := by omega
  have k0 : decide ((n : Int) < 10) = true := decide_eq_true (by omega)
  have k1 : ((n : Int) == 1) = false := by simp; omega
  have hls : bt q ((n : Int) - 1) = ((q[n - 1]'hp).toNat : Int) := by unfold bt; rw [dif_pos (by omega)]; simp
  rw [hls] at h1
  have k2 : decide (0 < (q[n - 1]'hp).toNat) = false := decide_eq_false (by omega)
  have HX := Lib.hid h1; have HP : Hid (0 < (n : Int)) := Lib.hid (by omega); have HT : Hid (0 ≤ (n : Int) ∧ (n : Int) ≤ s.size - a) := Lib.hid (by omega); clear h1 h0
  go_enter Try.func62, Try.ntmps62
  go_wp2_with (first | (go_at_call 120; refine (span_all g s a _ H.out ha hs).mono ?_; rintro e w1 ⟨hv1, hv2, hv3, hb⟩; rw [HN.out] at hv1 hv2 hv3; obtain rfl := hv1 HP.out; have H1 := Lib.hid (H.out.below hb); have B1 := Lib.hid (grown_below hb (some g)); clear hv1 hv2 hv3 hb) | (go_at_call 104; refine (take_ok g s a (n : Int) _ H1.out ha hs HT.out).mono ?_; rintro e w2 ⟨rfl, hr, hg⟩; have R2 := Lib.hid hr; have G2 := Lib.hid (B1.out.trans hg); clear hr hg) | (go_at_call 103; with_reducible refine (need_ok _ _ _).mono ?_; rintro e _ ⟨rfl, rfl⟩) | (go_at_call 103; with_reducible refine (need_no _ 6 _ rfl).mono ?_; rintro e w9 ⟨rfl, hb9⟩; have B9 := Lib.hid hb9; clear hb9))
  simp [bodyPost]
  exact G2.out.trans (grown_below B9.out _)
set_option maxRecDepth 100000 in
set_option maxHeartbeats 400000 in
theorem var_f (g : Nat) (s q : ByteArray) (a : Int) (n : Nat) (w : World) (h : Rd w g s a) (ha : 0 ≤ a ∧ a ≤ s.size) (hs : s.size < 4611686018427387904) (hn : spn s a 10 0 = n) (hq : s.extract a.toNat (a + (n : Int)).toNat = q) (hz : q.size = n) (h0 : 0 < n ∧ n ≤ 10 ∧ a + n ≤ s.size) (h1 : n = 10 ∧ bt q ((n : Int) - 1) = 0) :
    Calls Try.prog 62 #[.pointer (some ⟨g, 0, none⟩)] w fun e w' => e = .panicked (up 6) ∧ w.grownBy w' (some g) := by
  have H := Lib.hid h; have HN := Lib.hid hn; clear h hn
  have hi : 0 ≤ (n : Int) - 1 ∧ (n : Int) - 1 < (q.size : Int) := by omega
  have hzi : (q.size : Int) = n := by omega
  have hp : n - 1 < q.size := by omega
  have hi2 : 1 ≤ (n : Int) ∧ (n : Int) - 1 < n := by omega
  have hi3 : 0 < n ∧ n ≤ 20 := by omega
  have k0 : decide ((n : Int) < 10) = false := decide_eq_false (by omega)
  have k1 : ((n : Int) == 1) = false := by simp; omega
  have hls : bt q ((n : Int) - 1) = ((q[n - 1]'hp).toNat : Int) := by unfold bt; rw [dif_pos (by omega)]; simp
  rw [hls] at h1
  have k2 : decide (0 < (q[n - 1]'hp).toNat) = false := decide_eq_false (by omega)
  have k3 : decide (((q[n - 1]'hp).toNat : Int) < 2) = true := decide_eq_true (by omega)
  have HX := Lib.hid h1; have HP : Hid (0 < (n : Int)) := Lib.hid (by omega); have HT : Hid (0 ≤ (n : Int) ∧ (n : Int) ≤ s.size - a) := Lib.hid (by omega); clear h1 h0
  go_enter Try.func62, Try.ntmps62
  go_wp2_with (first | (go_at_call 120; refine (span_all g s a _ H.out ha hs).mono ?_; rintro e w1 ⟨hv1, hv2, hv3, hb⟩; rw [HN.out] at hv1 hv2 hv3; obtain rfl := hv1 HP.out; have H1 := Lib.hid (H.out.below hb); have B1 := Lib.hid (grown_below hb (some g)); clear hv1 hv2 hv3 hb) | (go_at_call 104; refine (take_ok g s a (n : Int) _ H1.out ha hs HT.out).mono ?_; rintro e w2 ⟨rfl, hr, hg⟩; have R2 := Lib.hid hr; have G2 := Lib.hid (B1.out.trans hg); clear hr hg) | (go_at_call 103; with_reducible refine (need_ok _ _ _).mono ?_; rintro e _ ⟨rfl, rfl⟩) | (go_at_call 103; with_reducible refine (need_no _ 6 _ rfl).mono ?_; rintro e w9 ⟨rfl, hb9⟩; have B9 := Lib.hid hb9; clear hb9))
  simp [bodyPost]
  exact G2.out.trans (grown_below B9.out _)
set_option maxRecDepth 100000 in
set_option maxHeartbeats 400000 in
theorem var_up (g : Nat) (s : ByteArray) (a er : Int) (w : World) (h : Rd w g s a) (ha : 0 ≤ a ∧ a ≤ s.size) (hs : s.size < 4611686018427387904) (hn : spn s a 10 0 = -er) (her : er = 5 ∨ er = 6) :
    Calls Try.prog 62 #[.pointer (some ⟨g, 0, none⟩)] w fun e w' => e = .panicked (up er) ∧ w.grownBy w' (some g) := by
  have H := Lib.hid h; have HN := Lib.hid hn; have HE := Lib.hid her; clear h hn her
  go_enter Try.func62, Try.ntmps62
  go_wp2_with (go_at_call 120; refine (span_all g s a _ H.out ha hs).mono ?_; rintro e w1 ⟨hv1, hv2, hv3, hb⟩; rw [HN.out] at hv1 hv2 hv3; obtain rfl : e = .panicked (up er) := (by rcases HE.out with rfl | rfl; exact hv2 rfl; exact hv3 rfl); have B1 := Lib.hid (grown_below hb (some g)); clear hv1 hv2 hv3 hb)
  simp [bodyPost]
  exact B1.out
end Go.Proofs.Ytlnnghbbjbimoaa.Reader
