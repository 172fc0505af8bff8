/- sat.divided: a product of two halves divided bit by bit: the quotient and the rest, or 'too great'. -/
import Derived.Test.YtkgcoeagifjbpaaProg
import Derived.Test.YtkgcoeagifjbpaaWWords
import Derived.Test.YtkgcoeagifjbpaaWMore
import Derived.WalkKit
import Derived.WalkLawsBesides
import Derived.WalkSpells
import Derived.Deep.LoopGhost
import Derived.Lib.Hide
import Derived.Laws.BitsLemmas
import Derived.Laws.Bits64
namespace Go.Proofs.Ytkgcoeagifjbpaa.SatDiv
open Go.RowKit Go.Proofs.YtkgcoeagifjbpaaW.PrintWords Go.Proofs.YtkgcoeagifjbpaaW.PrintLast Go.Proofs.YtkgcoeagifjbpaaW.PrintMore
set_option linter.unusedVariables false
set_option linter.unusedSimpArgs false

/-- What the halves tell so far. -/
def pre (base half bit : Int) : Int := base * 2 ^ (63 - bit).toNat + half / 2 ^ (bit + 1).toNat
def Inv (hi lo c i q r : Int) : Prop := 0 ≤ r ∧ r < c ∧ 0 ≤ q ∧ q ≤ 2305843009213693953 ∧ (i = 0 → q * c + r = 0) ∧ (i = 1 → q * c + r = hi) ∧ (i = 2 → q * c + r = hi * 18446744073709551616 + lo)
def InvIn (base half c bit q r : Int) : Prop := 0 ≤ r ∧ r < c ∧ 0 ≤ q ∧ q ≤ 2305843009213693953 ∧ q * c + r = pre base half bit
/-- What the division tells. -/
def Told (p c : Int) (e : Ending) : Prop := ∃ q r : Int, e = .returned (.tuple #[.int .u64 q, .int .u64 r, .bool (decide (1152921504606846976 < p / c))]) ∧ (p / c ≤ 1152921504606846976 → q = p / c ∧ r = p % c)

theorem orand {r x : Int} (hr : 0 ≤ r) (hr1 : r < 1152921504606846976) (hx : 0 ≤ x) (hx1 : x < 18446744073709551616) : bits BinOp.or .u64 (r * 2) (bits BinOp.and .u64 x 1) = r * 2 + x % 2 := by
  have h1 : bits BinOp.and .u64 x 1 = x % 2 := and_one_u64 x hx (by omega)
  rw [h1]
  exact bits_join .u64 62 (by decide) (fun n h0 h1 => by rw [IntKind.wrap_u64]; omega) 1 (r * 2) (x % 2) (by omega) (by omega) (by omega) (by omega) (by omega) (by omega)
theorem pre_step (base half : Int) (b : Int) (h0 : 0 ≤ b) (h1 : b ≤ 63) (hh : 0 ≤ half) : pre base half (b - 1) = 2 * pre base half b + half / 2 ^ b.toNat % 2 := by
  unfold pre
  obtain ⟨n, rfl⟩ := Int.eq_ofNat_of_zero_le h0
  rw [show (63 - ((n : Int) - 1)).toNat = (63 - (n : Int)).toNat + 1 from by omega, show ((n : Int) - 1 + 1).toNat = n from by omega, show ((n : Int) + 1).toNat = n + 1 from by omega, Int.toNat_natCast, Int.pow_succ, Int.pow_succ]
  have : half / (2 ^ n * 2) = half / 2 ^ n / 2 := by rw [Int.ediv_ediv, if_neg (fun hc => absurd hc.2 (by intro hc2; exact absurd hc.1 (Int.not_lt.2 (Int.le_of_lt (Int.pow_pos (by decide)))))), Int.sub_zero]
  rw [this]
  have e : base * (2 ^ (63 - (n : Int)).toNat * 2) = 2 * (base * 2 ^ (63 - (n : Int)).toNat) := by rw [← Int.mul_assoc, Int.mul_comm]
  rw [e]; omega
theorem pre_le (base half : Int) (b : Int) (h0 : -1 ≤ b) (h1 : b ≤ 63) (hh : 0 ≤ half) (hb : 0 ≤ base) : pre base half b ≤ base * 18446744073709551616 + half := by
  unfold pre
  have a1 : base * 2 ^ (63 - b).toNat ≤ base * 18446744073709551616 := by
    apply Int.mul_le_mul_of_nonneg_left _ hb
    have : ∀ n : Nat, n ≤ 64 → (2 : Int) ^ n ≤ 18446744073709551616 := by decide
    exact this _ (by omega)
  have a2 := Int.ediv_le_self (2 ^ (b + 1).toNat : Int) hh
  omega
theorem inv_start (base half c q r : Int) (h0 : 0 ≤ r) (h1 : r < c) (h2 : 0 ≤ q) (h3 : q ≤ 2305843009213693953) (h : q * c + r = base) (hh : 0 ≤ half) (hh1 : half < 18446744073709551616) : InvIn base half c 63 q r := by
  refine ⟨h0, h1, h2, h3, ?_⟩
  unfold pre
  rw [show ((63 : Int) - 63).toNat = 0 from rfl, show ((63 : Int) + 1).toNat = 64 from rfl, show (2 : Int) ^ 64 = 18446744073709551616 from by decide]; omega
theorem inv_end {base half c b q r : Int} (h : InvIn base half c b q r) (hb : b = -1) : 0 ≤ r ∧ r < c ∧ 0 ≤ q ∧ q ≤ 2305843009213693953 ∧ q * c + r = base * 18446744073709551616 + half := by
  subst hb; obtain ⟨h0, h1, h2, h3, h4⟩ := h
  refine ⟨h0, h1, h2, h3, h4.trans ?_⟩
  unfold pre
  rw [show ((63 : Int) - -1).toNat = 64 from rfl, show ((-1 : Int) + 1).toNat = 0 from rfl, show (2 : Int) ^ 64 = 18446744073709551616 from by decide]; simp
theorem inv_less {base half c b q r : Int} (h : InvIn base half c b q r) (h0 : 0 ≤ b) (h1 : b ≤ 63) (hh : 0 ≤ half) (hq : q ≤ 1152921504606846976) (hl : r * 2 + half / 2 ^ b.toNat % 2 < c) : InvIn base half c (b - 1) (q * 2) (r * 2 + half / 2 ^ b.toNat % 2) := by
  obtain ⟨a0, a1, a2, a3, a4⟩ := h
  have e := pre_step base half b h0 h1 hh
  have e2 : q * 2 * c = 2 * (q * c) := by rw [Int.mul_comm q 2, Int.mul_assoc]
  exact ⟨by omega, hl, by omega, by omega, by rw [e2]; omega⟩
theorem inv_more {base half c b q r : Int} (h : InvIn base half c b q r) (h0 : 0 ≤ b) (h1 : b ≤ 63) (hh : 0 ≤ half) (hq : q ≤ 1152921504606846976) (hl : c ≤ r * 2 + half / 2 ^ b.toNat % 2) : InvIn base half c (b - 1) (q * 2 + 1) (r * 2 + half / 2 ^ b.toNat % 2 - c) := by
  obtain ⟨a0, a1, a2, a3, a4⟩ := h
  have e := pre_step base half b h0 h1 hh
  have e2 : (q * 2 + 1) * c = 2 * (q * c) + c := by rw [Int.add_mul, Int.one_mul, Int.mul_comm q 2, Int.mul_assoc]
  exact ⟨by omega, by omega, by omega, by omega, by rw [e2]; omega⟩
theorem far {base half c b q r p : Int} (h : InvIn base half c b q r) (h0 : -1 ≤ b) (h1 : b ≤ 63) (hh : 0 ≤ half) (hb : 0 ≤ base) (hc : 1 ≤ c) (hq : 1152921504606846976 < q) (hp : base * 18446744073709551616 + half ≤ p) : 1152921504606846976 < p / c := by
  obtain ⟨a0, a1, a2, a3, a4⟩ := h
  have := pre_le base half b h0 h1 hh hb
  have : q ≤ p / c := by rw [Int.le_ediv_iff_mul_le (by omega)]; omega
  omega
theorem told_end {hi lo c q r : Int} (h : Inv hi lo c 2 q r) (hc : 1 ≤ c) : (hi * 18446744073709551616 + lo) / c = q ∧ (hi * 18446744073709551616 + lo) % c = r := by
  obtain ⟨a0, a1, a2, a3, _, _, a4⟩ := h
  rw [← a4 rfl]
  have e : (q * c + r) / c = q := by rw [Int.add_comm, Int.add_mul_ediv_right _ _ (by omega), Int.ediv_eq_zero_of_lt a0 a1]; omega
  refine ⟨e, ?_⟩
  rw [Int.add_comm, Int.add_mul_emod_self_right, Int.emod_eq_of_lt a0 a1]
theorem half_of {hi lo c i q r : Int} (h : Inv hi lo c i q r) (h0 : 0 ≤ i) (h1 : i < 2) (g0 : 0 ≤ hi) (g1 : hi < 18446744073709551616) (g2 : 0 ≤ lo) (g3 : lo < 18446744073709551616) :
    ∃ base half, 0 ≤ base ∧ 0 ≤ half ∧ half < 18446744073709551616 ∧ base * 18446744073709551616 + half ≤ hi * 18446744073709551616 + lo ∧ (i = 0 ∧ half = hi ∧ base = 0 ∨ i = 1 ∧ half = lo ∧ base = hi) ∧ InvIn base half c 63 q r := by
  obtain ⟨a0, a1, a2, a3, e0, e1, _⟩ := h
  obtain rfl | rfl : i = 0 ∨ i = 1 := by omega
  · exact ⟨0, hi, by omega, g0, g1, by omega, .inl ⟨rfl, rfl, rfl⟩, inv_start _ _ _ _ _ a0 a1 a2 a3 (by rw [e0 rfl]) g0 g1⟩
  · exact ⟨hi, lo, g0, g2, g3, by omega, .inr ⟨rfl, rfl, rfl⟩, inv_start _ _ _ _ _ a0 a1 a2 a3 (e1 rfl) g2 g3⟩
theorem inv_next {base half hi lo c i q r : Int} (h : 0 ≤ r ∧ r < c ∧ 0 ≤ q ∧ q ≤ 2305843009213693953 ∧ q * c + r = base * 18446744073709551616 + half) (hc : i = 0 ∧ half = hi ∧ base = 0 ∨ i = 1 ∧ half = lo ∧ base = hi) : Inv hi lo c (i + 1) q r := by
  obtain ⟨a0, a1, a2, a3, a4⟩ := h
  rcases hc with ⟨rfl, rfl, rfl⟩ | ⟨rfl, rfl, rfl⟩
  · exact ⟨a0, a1, a2, a3, by simp, fun _ => by omega, by simp⟩
  · exact ⟨a0, a1, a2, a3, by simp, by simp, fun _ => a4⟩

set_option maxRecDepth 100000 in
set_option maxHeartbeats 800000 in
theorem divided_calls (hi lo c : Int) (w : World) (h0 : 0 ≤ hi) (h1 : hi < 18446744073709551616) (h2 : 0 ≤ lo) (h3 : lo < 18446744073709551616) (h4 : 1 ≤ c) (h5 : c ≤ 1152921504606846976) :
    Calls Try.prog 71 #[.agg #[.int .u64 hi, .int .u64 lo], .int .u64 c] w fun e w' => Told (hi * 18446744073709551616 + lo) c e ∧ w' = w.alloc (.cells #[.int .u64 hi, .int .u64 lo] 81) := by
  have i0 : ∀ w, (Instr.index 81 (.agg #[.int .u64 hi, .int .u64 lo]) (.int .i64 0)).run Try.prog w = .ok (.int .u64 hi) w := fun _ => by kernel_rfl
  have i1 : ∀ w, (Instr.index 81 (.agg #[.int .u64 hi, .int .u64 lo]) (.int .i64 1)).run Try.prog w = .ok (.int .u64 lo) w := fun _ => by kernel_rfl
  go_enter Try.func71, Try.ntmps71
  go_wp2; go_step3; go_wp2; go_step3; go_wp2
  go_loopg [7, 8, 13] 2 (fun k q r i wr => ∃ i' q' r' : Int, 0 ≤ i' ∧ i' + k = 2 ∧ i = .int .i64 i' ∧ q = .int .u64 q' ∧ r = .int .u64 r' ∧ Hid (Inv hi lo c i' q' r') ∧ wr = w.alloc (.cells #[.int .u64 hi, .int .u64 lo] 81))
  case atStart => exact ⟨0, 0, 0, by omega, by omega, rfl, rfl, rfl, Lib.hid ⟨by omega, by omega, by omega, by omega, by simp, by simp, by simp⟩, rfl⟩
  case round =>
    obtain ⟨i', q', r', hi0, hi1, rfl, rfl, rfl, HI, rfl⟩ := hrel
    by_cases hlt : i' < 2
    · obtain ⟨base, half, hb0, hh0, hh1, hp, hcase, hin⟩ := half_of HI.out hi0 hlt h0 h1 h2 h3
      have hidx : ∀ w, (Instr.index 81 (.agg #[.int .u64 hi, .int .u64 lo]) (.int .i64 i')).run Try.prog w = .ok (.int .u64 half) w := by
        rcases hcase with ⟨rfl, rfl, rfl⟩ | ⟨rfl, rfl, rfl⟩
        · exact i0
        · exact i1
      have HC := Lib.hid hcase; clear hcase
      have HP := Lib.hid hp; clear hp
      have HIN := Lib.hid hin; clear hin i0 i1
      go_wp2
      go_loopg [7, 8, 11] 64 (fun k q r b wr => ∃ b' q' r' : Int, -1 ≤ b' ∧ b' ≤ 63 ∧ b' + 1 = k ∧ b = .int .i64 b' ∧ q = .int .u64 q' ∧ r = .int .u64 r' ∧ Hid (InvIn base half c b' q' r') ∧ wr = w.alloc (.cells #[.int .u64 hi, .int .u64 lo] 81))
      case atStart => exact ⟨63, q', r', by omega, by omega, by omega, rfl, rfl, rfl, HIN, rfl⟩
      case round =>
        obtain ⟨b', q2, r2, hb0', hb1, hb2, rfl, rfl, rfl, HI2, rfl⟩ := hrel
        have hr2 : 0 ≤ r2 := HI2.out.1
        have hr3 : r2 < 1152921504606846976 := by have := HI2.out.2.1; omega
        have hq2 : 0 ≤ q2 := HI2.out.2.2.1
        have hq3 : q2 ≤ 2305843009213693953 := HI2.out.2.2.2.1
        by_cases hb : 0 ≤ b'
        · have hx0 : 0 ≤ half / 2 ^ b'.toNat := Int.ediv_nonneg hh0 (Int.le_of_lt (Int.pow_pos (by decide)))
          have hx1 : half / 2 ^ b'.toNat < 18446744073709551616 := by have := Int.ediv_le_self (2 ^ b'.toNat : Int) hh0; omega
          have hbit := orand hr2 hr3 hx0 hx1
          have hm0 : 0 ≤ half / 2 ^ b'.toNat % 2 := by omega
          have hm1 : half / 2 ^ b'.toNat % 2 < 2 := by omega
          by_cases hq : q2 ≤ 1152921504606846976
          · by_cases hl : c ≤ r2 * 2 + half / 2 ^ b'.toNat % 2
            · go_wp2
              go_roundg (b'.toNat)
              case measure => omega
              case rel => exact ⟨b' - 1, q2 * 2 + 1, r2 * 2 + half / 2 ^ b'.toNat % 2 - c, by omega, by omega, by omega, rfl, rfl, rfl, Lib.hid (inv_more HI2.out hb hb1 hh0 hq hl), rfl⟩
            · go_wp2
              go_roundg (b'.toNat)
              case measure => omega
              case rel => exact ⟨b' - 1, q2 * 2, r2 * 2 + half / 2 ^ b'.toNat % 2, by omega, by omega, by omega, rfl, rfl, rfl, Lib.hid (inv_less HI2.out hb hb1 hh0 hq (by omega)), rfl⟩
          · have HF := Lib.hid (far HI2.out hb0' hb1 hh0 hb0 h4 (by omega) HP.out)
            go_wp2
            try rw [Exit.noGoto_ret]
            go_ret3
            have hd : decide (1152921504606846976 < (hi * 18446744073709551616 + lo) / c) = true := decide_eq_true HF.out
            exact ⟨⟨q2, r2 * 2 + half / 2 ^ b'.toNat % 2, by rw [hd]; rfl, fun hle => absurd HF.out (by omega)⟩, rfl⟩
        · have HE := Lib.hid (inv_end HI2.out (by omega))
          go_wp2
          go_roundg (2 - (i' + 1).toNat)
          case measure => omega
          case rel => exact ⟨i' + 1, q2, r2, by omega, by omega, rfl, rfl, rfl, Lib.hid (inv_next HE.out HC.out), rfl⟩
    · obtain rfl : i' = 2 := by omega
      have HT := Lib.hid (told_end HI.out h4)
      have hq2 : 0 ≤ q' := HI.out.2.2.1
      have hq3 : q' ≤ 2305843009213693953 := HI.out.2.2.2.1
      go_wp2
      try rw [Exit.noGoto_ret]
      go_ret3
      exact ⟨⟨q', r', by rw [HT.out.1]; rfl, fun hle => ⟨HT.out.1.symm, HT.out.2.symm⟩⟩, rfl⟩
end Go.Proofs.Ytkgcoeagifjbpaa.SatDiv
