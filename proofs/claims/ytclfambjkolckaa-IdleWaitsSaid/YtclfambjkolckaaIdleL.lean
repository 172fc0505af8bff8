/- The idle functions' contracts, in whole numbers. -/
import Derived.Test.YtclfambjkolckaaIdleV
import Derived.Test.YtclfambjkolckaaIdleH
import Derived.Test.YtclfambjkolckaaIdleSent
import Derived.Test.YtclfambjkolckaaIdleLives
import Derived.Test.YtclfambjkolckaaPIx3
import Derived.Test.YtclfambjkolckaaPIx6
import Derived.Test.YtclfambjkolckaaPIx7
import Derived.Test.YtclfambjkolckaaPIx5
namespace Go.Proofs.Ytclfambjkolckaa.Pure
open Go Go.RowKit Go.Proofs.Ytclfambjkolckaa.PI Go.Proofs.Ytclfambjkolckaa.SatDiv Go.Proofs.Ytclfambjkolckaa.Fl Go.Proofs.YtclfambjkolckaaW.PrintWords Go.Proofs.YtclfambjkolckaaW.PrintLast Go.Proofs.YtclfambjkolckaaW.PrintMore
set_option linter.unusedVariables false
set_option linter.unusedSimpArgs false
/-- the states that come: by c, whether the class is right -/
def avV (q0 q1 now time c6 c7 c8 : Int) : Int := mx c7 (mn (addV q1 (subV (subV (subV now q0) time) q1 / 2 ^ c6.toNat)) c8)
def sv0 (c : Bool) (q0 now : Int) : Int := if c then hd now else q0
def sv1 (c : Bool) (q0 q1 now time c6 c7 c8 : Int) : Int := if c then avV q0 q1 now time c6 c7 c8 else q1
def sv2 (c : Bool) (q0 q1 q2 now time c6 c7 c8 : Int) : Int := if c then (if avV q0 q1 now time c6 c7 c8 < 0 then addV now (addV time (-(avV q0 q1 now time c6 c7 c8) * (2 ^ c6.toNat - 1))) else 0) else q2
def okc (c0 c1 : Int) (c2 : Nat) (c3 c4 c5 c6 c7 c8 : Int) : Bool := decide (crv c0 c1 c2 c3 c4 c5 c6 c7 c8 = 0)
theorem okc_in (c0 c1 : Int) (c2 : Nat) (c3 c4 c5 c6 c7 c8 : Int) (h : okc c0 c1 c2 c3 c4 c5 c6 c7 c8 = true) : (0 ≤ c6 ∧ c6 ≤ 16) ∧ (-1099511627776 ≤ c7 ∧ c7 ≤ 0) ∧ (0 ≤ c8 ∧ c8 ≤ 1099511627776) := by
  have h := of_decide_eq_true h
  unfold crv at h
  split at h
  · exact absurd h (by decide)
  · split at h
    · exact absurd h (by decide)
    · split at h
      · split at h
        · exact absurd h (by decide)
        · split at h
          · exact absurd h (by decide)
          · split at h
            · exact absurd h (by decide)
            · rename_i hb
              have hb : (btw c6 0 16 && (btw c7 (-1099511627776) 0 && btw c8 0 1099511627776)) = true := by simpa using hb
              simp only [Bool.and_eq_true] at hb
              exact ⟨of_decide_eq_true hb.1, of_decide_eq_true hb.2.1, of_decide_eq_true hb.2.2⟩
      · rename_i h1; exact absurd h h1
theorem iright_f (k : Nat) (hk : 2 ≤ k) (c0 c1 : Int) (c2 : Nat) (c3 c4 c5 c6 c7 c8 : Int) (c9 c10 : Bool) (h2 : c2 < 18446744073709551616) : idle_right.f k c0 c1 c2 c3 c4 c5 c6 c7 c8 c9 c10 = some (okc c0 c1 c2 c3 c4 c5 c6 c7 c8) := by
  unfold idle_right.f okc
  rw [right_f k hk c0 c1 c2 c3 c4 c5 c6 c7 c8 c9 c10 h2, Option.bind_some]
  congr 1
theorem right_calls (c0 c1 : Int) (c2 : Nat) (c3 c4 c5 c6 c7 c8 : Int) (c9 c10 : Bool) (h2 : c2 < 18446744073709551616) (r : Bool) (hr : okc c0 c1 c2 c3 c4 c5 c6 c7 c8 = r) (w : World) : Calls Try.prog 139 #[.agg #[.int .i64 c0, .int .i64 c1, .float .f64 c2, .int .i64 c3, .int .i64 c4, .int .i64 c5, .int .i64 c6, .int .i64 c7, .int .i64 c8, .bool c9, .bool c10]] w fun e w' => e = .returned (.bool r) ∧ Below w.heap.size w w' :=
  (idle_right.calls 4 c0 c1 c2 c3 c4 c5 c6 c7 c8 c9 c10 r w (by rw [iright_f 4 (by decide) c0 c1 c2 c3 c4 c5 c6 c7 c8 c9 c10 h2, hr])).mono fun e w' h => ⟨h.1, by first | exact h.2 | exact h.2.below⟩
theorem held_calls (x : Int) (c0 c1 : Int) (c2 : Nat) (c3 c4 c5 c6 c7 c8 : Int) (c9 c10 : Bool) (w : World) : Calls Try.prog 142 #[.int .i64 x, .agg #[.int .i64 c0, .int .i64 c1, .float .f64 c2, .int .i64 c3, .int .i64 c4, .int .i64 c5, .int .i64 c6, .int .i64 c7, .int .i64 c8, .bool c9, .bool c10]] w fun e w' => e = .returned (.int .i64 (mx c7 (mn x c8))) ∧ Below w.heap.size w w' :=
  (idle_held.calls x c0 c1 c2 c3 c4 c5 c6 c7 c8 c9 c10 _ w rfl).mono fun e w' h => ⟨h.1, by first | exact h.2 | exact h.2.below⟩
theorem mx_mn {x lo hi : Int} (h1 : lo ≤ hi) : lo ≤ mx lo (mn x hi) ∧ mx lo (mn x hi) ≤ hi := by unfold mx mn; split <;> split <;> omega
theorem sent_calls (q0 q1 q2 : Int) (c0 c1 : Int) (c2 : Nat) (c3 c4 c5 c6 c7 c8 : Int) (c9 c10 : Bool) (time now : Int) (h2 : c2 < 18446744073709551616) (c : Bool) (hc : okc c0 c1 c2 c3 c4 c5 c6 c7 c8 = c) (w : World) :
    Calls Try.prog 89 #[.agg #[.int .i64 q0, .int .i64 q1, .int .i64 q2], .agg #[.int .i64 c0, .int .i64 c1, .float .f64 c2, .int .i64 c3, .int .i64 c4, .int .i64 c5, .int .i64 c6, .int .i64 c7, .int .i64 c8, .bool c9, .bool c10], .int .i64 time, .int .i64 now] w fun e w' => e = .returned (.agg #[.int .i64 (sv0 c q0 now), .int .i64 (sv1 c q0 q1 now time c6 c7 c8), .int .i64 (sv2 c q0 q1 q2 now time c6 c7 c8)]) ∧ Below w.heap.size w w' := by
  cases c
  · exact IdleSent.sent_bad q0 q1 q2 c0 c1 c2 c3 c4 c5 c6 c7 c8 c9 c10 time now w (right_calls c0 c1 c2 c3 c4 c5 c6 c7 c8 c9 c10 h2 false hc)
  · obtain ⟨⟨w0, w1⟩, ⟨m0, m1⟩, x0, x1⟩ := okc_in c0 c1 c2 c3 c4 c5 c6 c7 c8 hc
    have hb := mx_mn (x := addV q1 (subV (subV (subV now q0) time) q1 / 2 ^ c6.toNat)) (lo := c7) (hi := c8) (by omega)
    by_cases hav : avV q0 q1 now time c6 c7 c8 < 0
    · have e : sv2 true q0 q1 q2 now time c6 c7 c8 = addV now (addV time (-(avV q0 q1 now time c6 c7 c8) * (2 ^ c6.toNat - 1))) := by unfold sv2; rw [if_pos rfl, if_pos hav]
      rw [e]
      exact IdleSent.sent_lo q0 q1 q2 c0 c1 c2 c3 c4 c5 c6 c7 c8 c9 c10 time now (subV now q0) (subV (subV now q0) time) (hd now) _ _ _ _ _ w (right_calls c0 c1 c2 c3 c4 c5 c6 c7 c8 c9 c10 h2 true hc) (sub_calls _ _) (sub_calls _ _) (hold_calls _)
        (IdleH.step_ok q1 _ c6 _ _ _ w0 w1 rfl rfl rfl) (held_calls _ c0 c1 c2 c3 c4 c5 c6 c7 c8 c9 c10) (decide_eq_true hav) (IdleH.away_ok _ c6 w0 w1 (show -1099511627776 ≤ avV q0 q1 now time c6 c7 c8 by unfold avV; omega) hav) (add_calls _ _) (add_calls _ _)
    · have e : sv2 true q0 q1 q2 now time c6 c7 c8 = 0 := by unfold sv2; rw [if_pos rfl, if_neg hav]
      rw [e]
      exact IdleSent.sent_hi q0 q1 q2 c0 c1 c2 c3 c4 c5 c6 c7 c8 c9 c10 time now (subV now q0) (subV (subV now q0) time) (hd now) _ _ w (right_calls c0 c1 c2 c3 c4 c5 c6 c7 c8 c9 c10 h2 true hc) (sub_calls _ _) (sub_calls _ _) (hold_calls _)
        (IdleH.step_ok q1 _ c6 _ _ _ w0 w1 rfl rfl rfl) (held_calls _ c0 c1 c2 c3 c4 c5 c6 c7 c8 c9 c10) (decide_eq_false hav)
theorem power_l (n : Nat) : ∀ (k : Nat) (x i : Int), 0 ≤ i → i ≤ 16 → n ≤ 16 → (n : Int) + i ≤ 16 → x = 2 ^ i.toNat → n < k → flashlockref25_power.l0 k (i + n) x i = some (2 ^ (i + n).toNat) := by
  induction n with
  | zero =>
    intro k x i h0 h1 h2 h3 hx hk
    obtain ⟨k, rfl⟩ : ∃ m, k = m + 1 := ⟨k - 1, by omega⟩
    simp only [flashlockref25_power.l0]
    rw [if_neg (by omega), hx]
    congr 2; omega
  | succ n ih =>
    intro k x i h0 h1 h2 h3 hx hk
    obtain ⟨k, rfl⟩ : ∃ m, k = m + 1 := ⟨k - 1, by omega⟩
    simp only [flashlockref25_power.l0]
    rw [if_pos (by omega)]
    have e1 : wrap64 (i + 1) = i + 1 := ewr (by omega)
    have hp : (2 : Int) ^ i.toNat ≤ 65536 ∧ (0 : Int) < 2 ^ i.toNat := by
      obtain ⟨m, rfl⟩ := Int.eq_ofNat_of_zero_le h0
      rw [Int.toNat_natCast]
      have e : (2 : Int) ^ m = ((2 ^ m : Nat) : Int) := by simp
      have h2 : 2 ^ m ≤ 2 ^ 16 := Nat.pow_le_pow_right (by omega) (by omega)
      have h3 : 0 < 2 ^ m := Nat.pow_pos (by omega)
      have h4 : (2 ^ 16 : Nat) = 65536 := by decide
      rw [e]; omega
    have e2 : wrap64 (2 * x) = 2 ^ (i + 1).toNat := by
      rw [hx, ewr (by omega), show (i + 1).toNat = i.toNat + 1 by omega, Int.pow_succ]; omega
    rw [e1, e2]
    have := ih k (2 ^ (i + 1).toNat) (i + 1) (by omega) (by omega) (by omega) (by omega) rfl (by omega)
    rw [show i + 1 + (n : Int) = i + ((n + 1 : Nat) : Int) by omega] at this
    exact this
theorem power_f (k : Nat) (hk : 20 ≤ k) (n : Int) (h0 : 0 ≤ n) (h1 : n ≤ 16) : flashlockref25_power.f k n = some (2 ^ n.toNat) := by
  unfold flashlockref25_power.f
  obtain ⟨m, rfl⟩ := Int.eq_ofNat_of_zero_le h0
  have := power_l m k 1 0 (by omega) (by omega) (by omega) (by omega) (by decide) (by omega)
  rw [Int.zero_add] at this
  exact this
theorem within_f (x : Int) (c0 c1 : Int) (c2 : Nat) (c3 c4 c5 c6 c7 c8 : Int) (c9 c10 : Bool) (h : c7 ≤ c8) : flashlockref25_within.f x c0 c1 c2 c3 c4 c5 c6 c7 c8 c9 c10 = some (mx c7 (mn x c8)) := by
  unfold flashlockref25_within.f mx mn
  by_cases h1 : x < c7
  · rw [if_pos h1, if_neg (show ¬ c8 < x by omega), if_neg (show ¬ c7 < x by omega)]
  · rw [if_neg h1]
    by_cases h2 : x > c8
    · rw [if_pos h2, if_pos (show c8 < x from h2)]
      by_cases h3 : c7 < c8
      · rw [if_pos h3]
      · rw [if_neg h3]; congr 1; omega
    · rw [if_neg h2, if_neg (show ¬ c8 < x from h2)]
      by_cases h3 : c7 < x
      · rw [if_pos h3]
      · rw [if_neg h3]; congr 1; omega
theorem crv_ok (c0 c1 : Int) (c2 : Nat) (c3 c4 c5 c6 c7 c8 : Int) : okc c0 c1 c2 c3 c4 c5 c6 c7 c8 = true ↔ crv c0 c1 c2 c3 c4 c5 c6 c7 c8 = 0 := decide_eq_true_iff
theorem pow_bd (c6 : Int) (h0 : 0 ≤ c6) (h1 : c6 ≤ 16) : (1 : Int) ≤ 2 ^ c6.toNat ∧ (2 : Int) ^ c6.toNat ≤ 65536 := by
  obtain ⟨m, rfl⟩ := Int.eq_ofNat_of_zero_le h0
  rw [Int.toNat_natCast]
  have e : (2 : Int) ^ m = ((2 ^ m : Nat) : Int) := by simp
  have h2 : 2 ^ m ≤ 2 ^ 16 := Nat.pow_le_pow_right (by omega) (by omega)
  have h3 : 0 < 2 ^ m := Nat.pow_pos (by omega)
  have h4 : (2 ^ 16 : Nat) = 65536 := by decide
  rw [e]; omega
theorem rsent_f (k : Nat) (hk : 100 ≤ k) (q0 q1 q2 : Int) (c0 c1 : Int) (c2 : Nat) (c3 c4 c5 c6 c7 c8 : Int) (c9 c10 : Bool) (time now : Int) (h2 : c2 < 18446744073709551616) (c : Bool) (hc : okc c0 c1 c2 c3 c4 c5 c6 c7 c8 = c) :
    flashlockref25_Sent.f k q0 q1 q2 c0 c1 c2 c3 c4 c5 c6 c7 c8 c9 c10 time now = some (sv0 c q0 now, sv1 c q0 q1 now time c6 c7 c8, sv2 c q0 q1 q2 now time c6 c7 c8) := by
  unfold flashlockref25_Sent.f
  rw [rright_f k (by omega) c0 c1 c2 c3 c4 c5 c6 c7 c8 c9 c10 h2, Option.bind_some]
  cases c
  · have : crv c0 c1 c2 c3 c4 c5 c6 c7 c8 ≠ 0 := fun h => by have := decide_eq_true h; unfold okc at hc; rw [this] at hc; cases hc
    rw [if_neg this]; rfl
  · have h := crv_ok c0 c1 c2 c3 c4 c5 c6 c7 c8 |>.1 hc
    obtain ⟨⟨w0, w1⟩, ⟨m0, m1⟩, x0, x1⟩ := okc_in c0 c1 c2 c3 c4 c5 c6 c7 c8 hc
    rw [if_pos h]
    simp only [flashlockref01_Sub.f, flashlockref01_Add.f, flashlockref01_Hold.f, Option.bind_some, rstep_f _ _ _ k (by omega), within_f _ c0 c1 c2 c3 c4 c5 c6 c7 c8 c9 c10 (by omega), power_f k (by omega) c6 w0 w1]
    have e1 : stepV q1 (subV (subV now q0) time) c6 = addV q1 (subV (subV (subV now q0) time) q1 / 2 ^ c6.toNat) := by
      unfold stepV floorV; rw [if_pos ⟨w0, w1⟩, if_pos (by omega)]
    have hb := mx_mn (x := addV q1 (subV (subV (subV now q0) time) q1 / 2 ^ c6.toNat)) (lo := c7) (hi := c8) (by omega)
    rw [e1]
    unfold sv0 sv1 sv2 avV
    simp only [if_true]
    generalize mx c7 (mn (addV q1 (subV (subV (subV now q0) time) q1 / 2 ^ c6.toNat)) c8) = a at hb
    by_cases ha : a < 0
    · rw [if_pos ha, if_pos ha]
      have hp := pow_bd c6 w0 w1
      generalize (2 : Int) ^ c6.toNat = p at hp
      have h3 : 0 ≤ -a * (p - 1) := Int.mul_nonneg (by omega) (by omega)
      have h4 : -a * (p - 1) ≤ 1099511627776 * 65535 := Int.mul_le_mul (by omega) (by omega) (by omega) (by omega)
      rw [ewr (x := p - 1) (by omega), ewr (x := -a) (by omega), ewr (x := -a * (p - 1)) (by omega)]
    · rw [if_neg ha, if_neg ha]
/-- New, Carry, Left -/
def nv0 (c : Bool) (now : Int) : Int := if c then hd now else 0
def nv1 (c : Bool) (c8 : Int) : Int := if c then c8 else 0
def cv1 (c : Bool) (q1 c7 c8 : Int) : Int := if c then mx c7 (mn q1 c8) else q1
def lfV (q2 now : Int) : Int := if now < q2 then mx 0 (subV q2 now) else 0
theorem new_f (k : Nat) (hk : 4 ≤ k) (c0 c1 : Int) (c2 : Nat) (c3 c4 c5 c6 c7 c8 : Int) (c9 c10 : Bool) (now : Int) (h2 : c2 < 18446744073709551616) (c : Bool) (hc : okc c0 c1 c2 c3 c4 c5 c6 c7 c8 = c) : idle_New.f k c0 c1 c2 c3 c4 c5 c6 c7 c8 c9 c10 now = some (nv0 c now, nv1 c c8, 0) := by
  unfold idle_New.f
  rw [iright_f k (by omega) c0 c1 c2 c3 c4 c5 c6 c7 c8 c9 c10 h2, hc, Option.bind_some]
  cases c <;> rfl
theorem rnew_f (k : Nat) (hk : 4 ≤ k) (c0 c1 : Int) (c2 : Nat) (c3 c4 c5 c6 c7 c8 : Int) (c9 c10 : Bool) (now : Int) (h2 : c2 < 18446744073709551616) (c : Bool) (hc : okc c0 c1 c2 c3 c4 c5 c6 c7 c8 = c) : flashlockref25_New.f k c0 c1 c2 c3 c4 c5 c6 c7 c8 c9 c10 now = some (nv0 c now, nv1 c c8, 0) := by
  unfold flashlockref25_New.f
  rw [rright_f k (by omega) c0 c1 c2 c3 c4 c5 c6 c7 c8 c9 c10 h2, Option.bind_some]
  cases c
  · have : crv c0 c1 c2 c3 c4 c5 c6 c7 c8 ≠ 0 := fun h => by have := decide_eq_true h; unfold okc at hc; rw [this] at hc; cases hc
    rw [if_neg this]; rfl
  · rw [if_pos (crv_ok c0 c1 c2 c3 c4 c5 c6 c7 c8 |>.1 hc)]; rfl
theorem carry_f (k : Nat) (hk : 4 ≤ k) (q0 q1 q2 : Int) (c0 c1 : Int) (c2 : Nat) (c3 c4 c5 c6 c7 c8 : Int) (c9 c10 : Bool) (h2 : c2 < 18446744073709551616) (c : Bool) (hc : okc c0 c1 c2 c3 c4 c5 c6 c7 c8 = c) : idle_Carry.f k q0 q1 q2 c0 c1 c2 c3 c4 c5 c6 c7 c8 c9 c10 = some (q0, cv1 c q1 c7 c8, q2) := by
  unfold idle_Carry.f
  rw [iright_f k (by omega) c0 c1 c2 c3 c4 c5 c6 c7 c8 c9 c10 h2, hc, Option.bind_some]
  cases c <;> rfl
theorem rcarry_f (k : Nat) (hk : 4 ≤ k) (q0 q1 q2 : Int) (c0 c1 : Int) (c2 : Nat) (c3 c4 c5 c6 c7 c8 : Int) (c9 c10 : Bool) (h2 : c2 < 18446744073709551616) (c : Bool) (hc : okc c0 c1 c2 c3 c4 c5 c6 c7 c8 = c) : flashlockref25_Carry.f k q0 q1 q2 c0 c1 c2 c3 c4 c5 c6 c7 c8 c9 c10 = some (q0, cv1 c q1 c7 c8, q2) := by
  unfold flashlockref25_Carry.f
  rw [rright_f k (by omega) c0 c1 c2 c3 c4 c5 c6 c7 c8 c9 c10 h2, Option.bind_some]
  cases c
  · have : crv c0 c1 c2 c3 c4 c5 c6 c7 c8 ≠ 0 := fun h => by have := decide_eq_true h; unfold okc at hc; rw [this] at hc; cases hc
    rw [if_neg this]; rfl
  · rw [if_pos (crv_ok c0 c1 c2 c3 c4 c5 c6 c7 c8 |>.1 hc)]
    obtain ⟨⟨w0, w1⟩, ⟨m0, m1⟩, x0, x1⟩ := okc_in c0 c1 c2 c3 c4 c5 c6 c7 c8 hc
    rw [within_f _ c0 c1 c2 c3 c4 c5 c6 c7 c8 c9 c10 (by omega)]; rfl
theorem over_f (q0 q1 q2 now : Int) : idle_Over.f q0 q1 q2 now = some (decide (now < q2)) := rfl
theorem left_f (q0 q1 q2 now : Int) : idle_Left.f q0 q1 q2 now = some (lfV q2 now) := by
  unfold idle_Left.f lfV
  rw [over_f, Option.bind_some]
  by_cases h : now < q2
  · rw [decide_eq_true h, if_pos rfl, if_pos h]; rfl
  · rw [decide_eq_false h, if_neg (by decide), if_neg h]
theorem rleft_f (q0 q1 q2 now : Int) : flashlockref25_Left.f q0 q1 q2 now = some (lfV q2 now) := by
  unfold flashlockref25_Left.f lfV
  by_cases h : now < q2
  · rw [if_neg (by omega), if_pos h]
    show (if subV q2 now < 0 then some 0 else some (subV q2 now)) = some (mx 0 (subV q2 now))
    unfold mx
    by_cases h1 : subV q2 now < 0
    · rw [if_pos h1, if_neg (by omega)]
    · rw [if_neg h1]
      by_cases h3 : 0 < subV q2 now
      · rw [if_pos h3]
      · rw [if_neg h3]; congr 1; omega
  · rw [if_pos (by omega), if_neg h]
/-- the examples -/
theorem un_one : un 4607182418800017408 = (1048576, 0) := by rw [← ofv_one]; exact un_ofv (by omega)
theorem ex_ok : okc 1 0 4607182418800017408 0 1 1 1 (-100) 0 = true := by
  unfold okc crv fv
  rw [un_one]; decide
theorem lives_calls (w : World) : Calls Try.prog 87 #[] w fun e w' => e = .returned (.bool true) ∧ Below w.heap.size w w' := by
  refine IdleLives.lives_way w (fun w => (idle_New.calls 4 1 0 4607182418800017408 0 1 1 1 (-100) 0 false false 0 0 0 0 w ?_).mono fun e w' h => ⟨h.1, by first | exact h.2 | exact h.2.below⟩) (fun w => ?_)
  · rw [new_f 4 (by decide) 1 0 4607182418800017408 0 1 1 1 (-100) 0 false false 0 (by decide) true ex_ok]; rfl
  · have := sent_calls 0 0 0 1 0 4607182418800017408 0 1 1 1 (-100) 0 false false 10 0 (by decide) true ex_ok w
    have e0 : sv0 true 0 0 = 0 := by decide
    have e1 : sv1 true 0 0 0 10 1 (-100) 0 = -5 := by decide
    have e2 : sv2 true 0 0 0 0 10 1 (-100) 0 = 15 := by decide
    rw [e0, e1, e2] at this
    exact this
end Go.Proofs.Ytclfambjkolckaa.Pure
