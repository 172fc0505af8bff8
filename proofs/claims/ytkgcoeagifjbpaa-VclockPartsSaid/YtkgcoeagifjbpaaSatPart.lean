/- sat.Part and sat.Up: quotients of products, rounded down and up, held at the bound; math/bits.Mul64. -/
import Derived.Test.YtkgcoeagifjbpaaSatDiv
import Derived.Lib.Mul64
import Derived.Shelf.Bits.Mul64
import Derived.Laws.Bits64b
namespace Go.Proofs.Ytkgcoeagifjbpaa.SatDiv
open Go.RowKit Go.Proofs.YtkgcoeagifjbpaaW.PrintWords Go.Proofs.YtkgcoeagifjbpaaW.PrintLast Go.Proofs.YtkgcoeagifjbpaaW.PrintMore
set_option linter.unusedVariables false
set_option linter.unusedSimpArgs false

set_option maxHeartbeats 1000000 in
theorem mul64_nat (x y : Nat) (hx : x < 18446744073709551616) (hy : y < 18446744073709551616) (w : World) :
    Calls Try.prog 70 #[.int .u64 x, .int .u64 y] w fun e w' => e = .returned (.tuple #[.int .u64 ((x * y / 18446744073709551616 : Nat) : Int), .int .u64 ((x * y % 18446744073709551616 : Nat) : Int)]) ∧ w = w' := by
  obtain ⟨bd, bt, bw, hhi⟩ := Lib.mul64_hi x y hx hy
  have ba := Lib.half_mul_le (a := x / 4294967296) (b := y / 4294967296) (by omega) (by omega)
  have bb := Lib.half_mul_le (a := x / 4294967296) (b := y % 4294967296) (by omega) (by omega)
  have bc := Lib.half_mul_le (a := x % 4294967296) (b := y / 4294967296) (by omega) (by omega)
  have ba' : x / 4294967296 * (y / 4294967296) < 18446744073709551616 := by omega
  have bb' : x / 4294967296 * (y % 4294967296) < 18446744073709551616 := by omega
  have bc' : x % 4294967296 * (y / 4294967296) < 18446744073709551616 := by omega
  have bh1 : x / 4294967296 * (y / 4294967296) + (x / 4294967296 * (y % 4294967296) + x % 4294967296 * (y % 4294967296) / 4294967296) / 4294967296 < 18446744073709551616 := by omega
  have bh : x / 4294967296 * (y / 4294967296) + (x / 4294967296 * (y % 4294967296) + x % 4294967296 * (y % 4294967296) / 4294967296) / 4294967296 + ((x / 4294967296 * (y % 4294967296) + x % 4294967296 * (y % 4294967296) / 4294967296) % 4294967296 + x % 4294967296 * (y / 4294967296)) / 4294967296 < 18446744073709551616 := by omega
  go_enter Try.func70, Try.ntmps70
  go_wp2
  simp only [Mul64.maskN x hx, Mul64.maskN y hy, Mul64.divN, Mul64.mulN, Mul64.addN, Mul64.wrapN _ bd, Mul64.wrapN _ bb', Mul64.wrapN _ bt, Mul64.maskN _ bt, Mul64.wrapN _ bc', Mul64.wrapN _ bw, Mul64.wrapN _ ba', Mul64.wrapN _ bh1, Mul64.wrapN _ bh, Mul64.wrapM (x * y)]
  rw [hhi]
  go_ret2
  exact ⟨rfl, rfl⟩
theorem mul64_calls (a b hi lo : Int) (w : World) (ha : 0 ≤ a) (ha1 : a < 18446744073709551616) (hb : 0 ≤ b) (hb1 : b < 18446744073709551616) (hhi : hi = a * b / 18446744073709551616) (hlo : lo = a * b % 18446744073709551616) :
    Calls Try.prog 70 #[.int .u64 a, .int .u64 b] w fun e w' => e = .returned (.tuple #[.int .u64 hi, .int .u64 lo]) ∧ w = w' := by
  obtain ⟨x, rfl⟩ := Int.eq_ofNat_of_zero_le ha
  obtain ⟨y, rfl⟩ := Int.eq_ofNat_of_zero_le hb
  have e1 : hi = ((x * y / 18446744073709551616 : Nat) : Int) := by rw [hhi]; simp
  have e2 : lo = ((x * y % 18446744073709551616 : Nat) : Int) := by rw [hlo]; simp
  rw [e1, e2]
  exact mul64_nat x y (by omega) (by omega) w
def okB (a b c : Int) : Bool := decide (0 ≤ a ∧ a ≤ 1152921504606846976 ∧ 0 ≤ b ∧ b ≤ 1152921504606846976 ∧ 1 ≤ c ∧ c ≤ 1152921504606846976)
theorem right_calls (a b c : Int) (t : Bool) (w : World) (h : okB a b c = t) : Calls Try.prog 69 #[.int .i64 a, .int .i64 b, .int .i64 c] w fun e w' => e = .returned (.bool t) ∧ w = w' := by
  have ht : t = decide (0 ≤ a ∧ a ≤ 1152921504606846976 ∧ 0 ≤ b ∧ b ≤ 1152921504606846976 ∧ 1 ≤ c ∧ c ≤ 1152921504606846976) := h.symm
  clear h
  by_cases h1 : 0 ≤ a
  · by_cases h2 : a ≤ 1152921504606846976
    · by_cases h3 : 0 ≤ b
      · by_cases h4 : b ≤ 1152921504606846976
        · by_cases h5 : 1 ≤ c
          · by_cases h6 : c ≤ 1152921504606846976
            · obtain rfl : t = true := by rw [ht]; simp [h1, h2, h3, h4, h5, h6]
              clear ht
              go_enter Try.func69, Try.ntmps69
              go_wp2
              go_ret
              exact ⟨by simp [h6], rfl⟩
            · obtain rfl : t = false := by rw [ht]; simp [h6]
              clear ht
              go_enter Try.func69, Try.ntmps69
              go_wp2
              go_ret
              exact ⟨by simp, rfl⟩
          · obtain rfl : t = false := by rw [ht]; simp [h5]
            clear ht
            go_enter Try.func69, Try.ntmps69
            go_wp2
            go_ret
            exact ⟨rfl, rfl⟩
        · obtain rfl : t = false := by rw [ht]; simp [h4]
          clear ht
          go_enter Try.func69, Try.ntmps69
          go_wp2
          go_ret
          exact ⟨rfl, rfl⟩
      · obtain rfl : t = false := by rw [ht]; simp [h3]
        clear ht
        go_enter Try.func69, Try.ntmps69
        go_wp2
        go_ret
        exact ⟨rfl, rfl⟩
    · obtain rfl : t = false := by rw [ht]; simp [h2]
      clear ht
      go_enter Try.func69, Try.ntmps69
      go_wp2
      go_ret
      exact ⟨rfl, rfl⟩
  · obtain rfl : t = false := by rw [ht]; simp [h1]
    clear ht
    go_enter Try.func69, Try.ntmps69
    go_wp2
    go_ret
    exact ⟨rfl, rfl⟩

def partV (a b c : Int) : Int := if okB a b c = true then (if 1152921504606846976 < a * b / c then 1152921504606846976 else a * b / c) else 0
def upV (a b c : Int) : Int := if okB a b c = true then (if 1152921504606846976 < a * b / c then 1152921504606846976 else if a * b % c = 0 then a * b / c else if a * b / c = 1152921504606846976 then 1152921504606846976 else a * b / c + 1) else 0
theorem mul_range {a b : Int} (h1 : 0 ≤ a) (h2 : a ≤ 1152921504606846976) (h3 : 0 ≤ b) (h4 : b ≤ 1152921504606846976) : 0 ≤ a * b ∧ a * b ≤ 1329227995784915872903807060280344576 := by
  refine ⟨Int.mul_nonneg h1 h3, ?_⟩
  have : a * b ≤ 1152921504606846976 * 1152921504606846976 := Int.mul_le_mul h2 h4 h3 (by decide)
  omega
theorem hold_same (x : Int) (w : World) (h : -1152921504606846976 ≤ x) (h1 : x ≤ 1152921504606846977) :
    Calls Try.prog 48 #[.int .i64 x] w fun e w' => e = .returned (.int .i64 (if x = 1152921504606846977 then 1152921504606846976 else x)) ∧ w = w' := by
  by_cases h2 : x ≤ 1152921504606846976
  · rw [if_neg (by omega)]
    go_enter Try.func48, Try.ntmps48
    go_wp2
    go_ret
    exact ⟨rfl, rfl⟩
  · rw [if_pos (by omega)]
    go_enter Try.func48, Try.ntmps48
    go_wp2
    go_ret
    exact ⟨rfl, rfl⟩

theorem divided_far (hi lo c p : Int) (w : World) (h0 : 0 ≤ hi) (h1 : hi < 18446744073709551616) (h2 : 0 ≤ lo) (h3 : lo < 18446744073709551616) (h4 : 1 ≤ c) (h5 : c ≤ 1152921504606846976) (hp : hi * 18446744073709551616 + lo = p) (hf : 1152921504606846976 < p / c) :
    Calls Try.prog 71 #[.agg #[.int .u64 hi, .int .u64 lo], .int .u64 c] w fun e w' => (∃ q r : Int, e = .returned (.tuple #[.int .u64 q, .int .u64 r, .bool true])) ∧ w.alloc (.cells #[.int .u64 hi, .int .u64 lo] 81) = w' := by
  refine (divided_calls hi lo c w h0 h1 h2 h3 h4 h5).mono ?_
  rintro e w' ⟨⟨q, r, he, _⟩, hw⟩
  exact ⟨⟨q, r, by rw [he, hp, decide_eq_true hf]⟩, hw.symm⟩
theorem divided_near (hi lo c p Q R : Int) (w : World) (h0 : 0 ≤ hi) (h1 : hi < 18446744073709551616) (h2 : 0 ≤ lo) (h3 : lo < 18446744073709551616) (h4 : 1 ≤ c) (h5 : c ≤ 1152921504606846976) (hp : hi * 18446744073709551616 + lo = p) (hQ : Q = p / c) (hR : R = p % c) (hf : Q ≤ 1152921504606846976) :
    Calls Try.prog 71 #[.agg #[.int .u64 hi, .int .u64 lo], .int .u64 c] w fun e w' => e = .returned (.tuple #[.int .u64 Q, .int .u64 R, .bool false]) ∧ w.alloc (.cells #[.int .u64 hi, .int .u64 lo] 81) = w' := by
  refine (divided_calls hi lo c w h0 h1 h2 h3 h4 h5).mono ?_
  rintro e w' ⟨⟨q, r, he, hn⟩, hw⟩
  subst hQ hR
  rw [hp] at he hn
  obtain ⟨rfl, rfl⟩ := hn hf
  exact ⟨by rw [he, decide_eq_false (by omega)], hw.symm⟩

set_option maxRecDepth 100000 in
set_option maxHeartbeats 800000 in
theorem part_calls (a b c : Int) (w : World) : Calls Try.prog 40 #[.int .i64 a, .int .i64 b, .int .i64 c] w fun e w' => e = .returned (.int .i64 (partV a b c)) ∧ Below w.heap.size w w' := by
  unfold partV
  by_cases h : okB a b c = true
  · rw [if_pos h]
    have HR := Lib.hid (right_calls a b c true w h)
    have h' : 0 ≤ a ∧ a ≤ 1152921504606846976 ∧ 0 ≤ b ∧ b ≤ 1152921504606846976 ∧ 1 ≤ c ∧ c ≤ 1152921504606846976 := of_decide_eq_true h
    clear h
    obtain ⟨h1, h2, h3, h4, h5, h6⟩ := h'
    obtain ⟨hm0, hm1⟩ := mul_range h1 h2 h3 h4
    obtain ⟨hi, hhi⟩ : ∃ hi, hi = a * b / 18446744073709551616 := ⟨_, rfl⟩
    obtain ⟨lo, hlo⟩ : ∃ lo, lo = a * b % 18446744073709551616 := ⟨_, rfl⟩
    have hp : hi * 18446744073709551616 + lo = a * b := by omega
    have k0 : 0 ≤ hi := by omega
    have k1 : hi < 18446744073709551616 := by omega
    have k2 : 0 ≤ lo := by omega
    have k3 : lo < 18446744073709551616 := by omega
    have HC1 := Lib.hid (mul64_calls a b hi lo w h1 (by omega) h3 (by omega) hhi hlo)
    have hq0 : 0 ≤ a * b / c := Int.ediv_nonneg hm0 (by omega)
    by_cases hf : 1152921504606846976 < a * b / c
    · rw [if_pos hf]
      have HC2 := Lib.hid (divided_far hi lo c _ w k0 k1 k2 k3 h5 h6 hp hf)
      clear hf hq0 hp hhi hlo hm0 hm1
      go_enter Try.func40, Try.ntmps40
      go_wp2_with (first | (go_at_call 69; refine HR.out.mono ?_; rintro e w' ⟨rfl, rfl⟩) | (go_at_call 70; refine HC1.out.mono ?_; rintro e w' ⟨rfl, rfl⟩) | (go_at_call 71; refine HC2.out.mono ?_; rintro e w' ⟨⟨q, r, rfl⟩, rfl⟩))
      go_ret
      exact ⟨rfl, (Below.refl _ _).alloc (Nat.le_refl _) _⟩
    · rw [if_neg hf]
      have HC2 := Lib.hid (divided_near hi lo c _ _ _ w k0 k1 k2 k3 h5 h6 hp rfl rfl (by omega))
      have hq1 : a * b / c ≤ 1152921504606846976 := by omega
      clear hf hp hhi hlo hm0 hm1
      generalize a * b / c = Q at *
      generalize a * b % c = R at *
      go_enter Try.func40, Try.ntmps40
      go_wp2_with (first | (go_at_call 69; refine HR.out.mono ?_; rintro e w' ⟨rfl, rfl⟩) | (go_at_call 70; refine HC1.out.mono ?_; rintro e w' ⟨rfl, rfl⟩) | (go_at_call 71; refine HC2.out.mono ?_; rintro e w' ⟨rfl, rfl⟩))
      go_ret
      exact ⟨rfl, (Below.refl _ _).alloc (Nat.le_refl _) _⟩
  · rw [if_neg h]
    have HR := Lib.hid (right_calls a b c false w (Bool.eq_false_iff.2 h))
    clear h
    go_enter Try.func40, Try.ntmps40
    go_wp2_with (first | (go_at_call 69; refine HR.out.mono ?_; rintro e w' ⟨rfl, rfl⟩))
    go_ret
    exact ⟨rfl, Below.refl _ _⟩

set_option maxRecDepth 100000 in
set_option maxHeartbeats 800000 in
theorem up_calls (a b c : Int) (w : World) : Calls Try.prog 42 #[.int .i64 a, .int .i64 b, .int .i64 c] w fun e w' => e = .returned (.int .i64 (upV a b c)) ∧ Below w.heap.size w w' := by
  unfold upV
  by_cases h : okB a b c = true
  · rw [if_pos h]
    have HR := Lib.hid (right_calls a b c true w h)
    have h' : 0 ≤ a ∧ a ≤ 1152921504606846976 ∧ 0 ≤ b ∧ b ≤ 1152921504606846976 ∧ 1 ≤ c ∧ c ≤ 1152921504606846976 := of_decide_eq_true h
    clear h
    obtain ⟨h1, h2, h3, h4, h5, h6⟩ := h'
    obtain ⟨hm0, hm1⟩ := mul_range h1 h2 h3 h4
    obtain ⟨hi, hhi⟩ : ∃ hi, hi = a * b / 18446744073709551616 := ⟨_, rfl⟩
    obtain ⟨lo, hlo⟩ : ∃ lo, lo = a * b % 18446744073709551616 := ⟨_, rfl⟩
    have hp : hi * 18446744073709551616 + lo = a * b := by omega
    have k0 : 0 ≤ hi := by omega
    have k1 : hi < 18446744073709551616 := by omega
    have k2 : 0 ≤ lo := by omega
    have k3 : lo < 18446744073709551616 := by omega
    have HC1 := Lib.hid (mul64_calls a b hi lo w h1 (by omega) h3 (by omega) hhi hlo)
    have hq0 : 0 ≤ a * b / c := Int.ediv_nonneg hm0 (by omega)
    by_cases hf : 1152921504606846976 < a * b / c
    · rw [if_pos hf]
      have HC2 := Lib.hid (divided_far hi lo c _ w k0 k1 k2 k3 h5 h6 hp hf)
      clear hf hq0 hp hhi hlo hm0 hm1
      go_enter Try.func42, Try.ntmps42
      go_wp2_with (first | (go_at_call 69; refine HR.out.mono ?_; rintro e w' ⟨rfl, rfl⟩) | (go_at_call 70; refine HC1.out.mono ?_; rintro e w' ⟨rfl, rfl⟩) | (go_at_call 71; refine HC2.out.mono ?_; rintro e w' ⟨⟨q, r, rfl⟩, rfl⟩))
      go_ret
      exact ⟨rfl, (Below.refl _ _).alloc (Nat.le_refl _) _⟩
    · rw [if_neg hf]
      have HC2 := Lib.hid (divided_near hi lo c _ _ _ w k0 k1 k2 k3 h5 h6 hp rfl rfl (by omega))
      have hq1 : a * b / c ≤ 1152921504606846976 := by omega
      have hr0 : 0 ≤ a * b % c := Int.emod_nonneg _ (by omega)
      clear hf hp hhi hlo hm0 hm1
      generalize a * b / c = Q at *
      generalize a * b % c = R at *
      by_cases hr : R = 0
      · rw [if_pos hr]
        have hr1 : R ≤ 0 := by omega
        have HS := fun wx => Lib.hid (hold_same Q wx (by omega) (by omega))
        rw [if_neg (by omega)] at HS
        clear hr
        go_enter Try.func42, Try.ntmps42
        go_wp2_with (first | (go_at_call 69; refine HR.out.mono ?_; rintro e w' ⟨rfl, rfl⟩) | (go_at_call 70; refine HC1.out.mono ?_; rintro e w' ⟨rfl, rfl⟩) | (go_at_call 71; refine HC2.out.mono ?_; rintro e w' ⟨rfl, rfl⟩) | (go_at_call 48; refine (HS _).out.mono ?_; rintro e w' ⟨rfl, rfl⟩))
        go_ret
        exact ⟨rfl, (Below.refl _ _).alloc (Nat.le_refl _) _⟩
      · rw [if_neg hr]
        have hr1 : 0 < R := by omega
        have e : (if Q = 1152921504606846976 then 1152921504606846976 else Q + 1) = (if Q + 1 = 1152921504606846977 then (1152921504606846976 : Int) else Q + 1) := by split <;> split <;> omega
        rw [e]
        have HS := fun wx => Lib.hid (hold_same (Q + 1) wx (by omega) (by omega))
        clear hr e
        generalize (if Q + 1 = 1152921504606846977 then (1152921504606846976 : Int) else Q + 1) = V at *
        go_enter Try.func42, Try.ntmps42
        go_wp2_with (first | (go_at_call 69; refine HR.out.mono ?_; rintro e w' ⟨rfl, rfl⟩) | (go_at_call 70; refine HC1.out.mono ?_; rintro e w' ⟨rfl, rfl⟩) | (go_at_call 71; refine HC2.out.mono ?_; rintro e w' ⟨rfl, rfl⟩) | (go_at_call 48; refine (HS _).out.mono ?_; rintro e w' ⟨rfl, rfl⟩))
        go_ret
        exact ⟨rfl, (Below.refl _ _).alloc (Nat.le_refl _) _⟩
  · rw [if_neg h]
    have HR := Lib.hid (right_calls a b c false w (Bool.eq_false_iff.2 h))
    clear h
    go_enter Try.func42, Try.ntmps42
    go_wp2_with (first | (go_at_call 69; refine HR.out.mono ?_; rintro e w' ⟨rfl, rfl⟩))
    go_ret
    exact ⟨rfl, Below.refl _ _⟩
end Go.Proofs.Ytkgcoeagifjbpaa.SatDiv
