/- flashlocklaw01.SatKeeps, walked: results stay within the bound, adding keeps the order, and subtracting undoes adding where nothing is held; parts lie between what is told down and up; for all integers. -/
import Derived.Test.YtkgcoeagifjbpaaSatMul
import Derived.OpenShut
namespace Go.Proofs.Ytkgcoeagifjbpaa.SatDiv
open Go.RowKit Go.Proofs.YtkgcoeagifjbpaaW.PrintWords Go.Proofs.YtkgcoeagifjbpaaW.PrintLast Go.Proofs.YtkgcoeagifjbpaaW.PrintMore
set_option linter.unusedVariables false
set_option linter.unusedSimpArgs false

theorem kp_id {x : Int} (h : -1152921504606846976 ≤ x ∧ x ≤ 1152921504606846976) : hd x = x := by unfold hd; rw [if_neg (by omega), if_neg (by omega)]
theorem kp_mono {x y : Int} (h : x ≤ y) : hd x ≤ hd y := by unfold hd; split <;> split <;> (try split) <;> (try split) <;> omega
theorem kp_part_up (a b c : Int) : 0 ≤ partV a b c ∧ partV a b c ≤ upV a b c ∧ upV a b c - partV a b c ≤ 1 ∧ partV a b c ≤ 1152921504606846976 ∧ upV a b c ≤ 1152921504606846976 := by
  unfold partV upV
  by_cases h : okB a b c = true
  · simp only [if_pos h]
    have h' : 0 ≤ a ∧ a ≤ 1152921504606846976 ∧ 0 ≤ b ∧ b ≤ 1152921504606846976 ∧ 1 ≤ c ∧ c ≤ 1152921504606846976 := of_decide_eq_true h
    have hq0 : 0 ≤ a * b / c := Int.ediv_nonneg (Int.mul_nonneg h'.1 h'.2.2.1) (by omega)
    generalize a * b / c = Q at *
    generalize a * b % c = R at *
    split
    · omega
    · split
      · omega
      · split <;> omega
  · simp only [if_neg h]; omega
theorem kp_small {a b c : Int} (ha : 0 ≤ a) (hb : 0 ≤ b) (hc : 1 ≤ c) (ha1 : a ≤ 1073741824) (hb1 : b ≤ 1073741824) (hc1 : c ≤ 1073741824) :
    0 ≤ a * b ∧ a * b ≤ 1152921504606846976 ∧ partV a b c * c ≤ a * b ∧ a * b - partV a b c * c < c ∧ a * b ≤ upV a b c * c ∧ upV a b c * c - a * b < c := by
  have hm0 : 0 ≤ a * b := Int.mul_nonneg ha hb
  have hm1 : a * b ≤ 1073741824 * 1073741824 := Int.mul_le_mul ha1 hb1 hb (by decide)
  have hok : okB a b c = true := decide_eq_true (by omega)
  unfold partV upV
  simp only [if_pos hok]
  have hq0 : 0 ≤ a * b / c := Int.ediv_nonneg hm0 (by omega)
  have hq1 : a * b / c ≤ a * b := Int.ediv_le_self _ hm0
  have hr0 : 0 ≤ a * b % c := Int.emod_nonneg _ (by omega)
  have hr1 : a * b % c < c := Int.emod_lt_of_pos _ (by omega)
  have hd := Int.emod_add_mul_ediv (a * b) c
  rw [Int.mul_comm c] at hd
  generalize a * b / c = Q at *
  generalize a * b % c = R at *
  generalize a * b = P at *
  rw [if_neg (by omega)]
  refine ⟨hm0, by omega, by omega, by omega, ?_⟩
  rw [if_neg (by omega)]
  by_cases hR : R = 0
  · rw [if_pos hR]; omega
  · rw [if_neg hR]
    have hne : Q ≠ 1152921504606846976 := by
      intro hQ
      have : Q * 1 ≤ Q * c := Int.mul_le_mul_of_nonneg_left hc hq0
      omega
    rw [if_neg hne, Int.add_mul, Int.one_mul]
    omega
theorem lives_calls (w : World) : Calls Try.prog 44 #[] w fun e w' => e = .returned (.bool true) ∧ Below w.heap.size w w' := by
  have e1 : addV 1152921504606846976 1 = 1152921504606846976 := by decide
  have e2 : partV 7 3 2 = 10 := by decide
  have e3 : upV 7 3 2 = 11 := by decide
  have H1 := fun w => Lib.hid (e1 ▸ add_calls 1152921504606846976 1 w)
  have H2 := fun w => Lib.hid (e2 ▸ part_calls 7 3 2 w)
  have H3 := fun w => Lib.hid (e3 ▸ up_calls 7 3 2 w)
  clear e1 e2 e3
  go_enter Try.func44, Try.ntmps44
  go_wp2_with fail
  refine (H1 _).out.mono ?_
  rintro e w' ⟨rfl, rfl⟩
  go_wp2_with fail
  refine (H2 _).out.mono ?_
  rintro e w1 ⟨rfl, hb1⟩
  go_wp2_with fail
  refine (H3 _).out.mono ?_
  rintro e w2 ⟨rfl, hb2⟩
  go_wp2_with fail
  go_ret
  exact ⟨rfl, hb1.trans (hb2.mono hb1.size)⟩
/-- the last test, in its seven ways -/
inductive Way (a b c : Int) : Prop
  | w1 (h1 : decide (a < 0) = true)
  | w2 (h1 : decide (a < 0) = false) (h2 : decide (b < 0) = true)
  | w3 (h1 : decide (a < 0) = false) (h2 : decide (b < 0) = false) (h3 : decide (c < 1) = true)
  | w4 (h1 : decide (a < 0) = false) (h2 : decide (b < 0) = false) (h3 : decide (c < 1) = false) (h4 : decide (1073741824 < a) = true)
  | w5 (h1 : decide (a < 0) = false) (h2 : decide (b < 0) = false) (h3 : decide (c < 1) = false) (h4 : decide (1073741824 < a) = false) (h5 : decide (1073741824 < b) = true)
  | w6 (h1 : decide (a < 0) = false) (h2 : decide (b < 0) = false) (h3 : decide (c < 1) = false) (h4 : decide (1073741824 < a) = false) (h5 : decide (1073741824 < b) = false) (h6 : decide (1073741824 < c) = true)
  | w7 (h1 : decide (a < 0) = false) (h2 : decide (b < 0) = false) (h3 : decide (c < 1) = false) (h4 : decide (1073741824 < a) = false) (h5 : decide (1073741824 < b) = false) (h6 : decide (1073741824 < c) = false)
    (p0 : 0 ≤ a * b) (p1 : a * b ≤ 1152921504606846976) (p6 : 0 ≤ partV a b c * c) (p7 : upV a b c * c ≤ 1152921505680588800) (p8 : partV a b c * c ≤ 1152921504606846976) (p9 : 0 ≤ upV a b c * c)
    (p2 : decide (partV a b c * c ≤ a * b) = true) (p3 : decide (a * b - partV a b c * c < c) = true) (p4 : decide (a * b ≤ upV a b c * c) = true) (p5 : decide (upV a b c * c - a * b < c) = true)
theorem way (a b c : Int) : Way a b c := by
  by_cases h1 : a < 0
  · exact .w1 (by simp; omega)
  by_cases h2 : b < 0
  · exact .w2 (by simp; omega) (by simp; omega)
  by_cases h3 : c < 1
  · exact .w3 (by simp; omega) (by simp; omega) (by simp; omega)
  by_cases h4 : 1073741824 < a
  · exact .w4 (by simp; omega) (by simp; omega) (by simp; omega) (by simp; omega)
  by_cases h5 : 1073741824 < b
  · exact .w5 (by simp; omega) (by simp; omega) (by simp; omega) (by simp; omega) (by simp; omega)
  by_cases h6 : 1073741824 < c
  · exact .w6 (by simp; omega) (by simp; omega) (by simp; omega) (by simp; omega) (by simp; omega) (by simp; omega)
  obtain ⟨p0, p1, p2, p3, p4, p5⟩ := kp_small (a := a) (b := b) (c := c) (by omega) (by omega) (by omega) (by omega) (by omega) (by omega)
  have h := kp_part_up a b c
  have q6 : 0 ≤ partV a b c * c := Int.mul_nonneg (by omega) (by omega)
  exact .w7 (by simp; omega) (by simp; omega) (by simp; omega) (by simp; omega) (by simp; omega) (by simp; omega) p0 p1 q6 (by omega) (by omega) (by omega) (decide_eq_true p2) (decide_eq_true p3) (decide_eq_true p4) (decide_eq_true p5)

/-- all that is called -/
structure KC (a b c S P D S3 D3 ha L U : Int) : Prop where
  a1 : ∀ w, Calls Try.prog 45 #[.int .i64 a, .int .i64 b] w fun e w' => e = .returned (.int .i64 S) ∧ w = w'
  a2 : ∀ w, Calls Try.prog 45 #[.int .i64 b, .int .i64 a] w fun e w' => e = .returned (.int .i64 S) ∧ w = w'
  a3 : ∀ w, Calls Try.prog 45 #[.int .i64 a, .int .i64 c] w fun e w' => e = .returned (.int .i64 S3) ∧ w = w'
  m1 : ∀ w, Calls Try.prog 46 #[.int .i64 a, .int .i64 b] w fun e w' => e = .returned (.int .i64 P) ∧ w = w'
  m2 : ∀ w, Calls Try.prog 46 #[.int .i64 b, .int .i64 a] w fun e w' => e = .returned (.int .i64 P) ∧ w = w'
  s1 : ∀ w, Calls Try.prog 47 #[.int .i64 a, .int .i64 b] w fun e w' => e = .returned (.int .i64 (-D)) ∧ w = w'
  s2 : ∀ w, Calls Try.prog 47 #[.int .i64 b, .int .i64 a] w fun e w' => e = .returned (.int .i64 D) ∧ w = w'
  s3 : ∀ w, Calls Try.prog 47 #[.int .i64 a, .int .i64 c] w fun e w' => e = .returned (.int .i64 D3) ∧ w = w'
  hh : ∀ w, Calls Try.prog 48 #[.int .i64 a] w fun e w' => e = .returned (.int .i64 ha) ∧ w = w'
  p1 : ∀ w, Calls Try.prog 40 #[.int .i64 a, .int .i64 b, .int .i64 c] w fun e w' => e = .returned (.int .i64 L) ∧ Below w.heap.size w w'
  p2 : ∀ w, Calls Try.prog 42 #[.int .i64 a, .int .i64 b, .int .i64 c] w fun e w' => e = .returned (.int .i64 U) ∧ Below w.heap.size w w'
  hl : ∀ w, Calls Try.prog 44 #[] w fun e w' => e = .returned (.bool true) ∧ Below w.heap.size w w'
  hu : decide (-1152921504606846976 < S) = true → decide (S < 1152921504606846976) = true → ∀ w, Calls Try.prog 47 #[.int .i64 S, .int .i64 b] w fun e w' => e = .returned (.int .i64 ha) ∧ w = w'
set_option maxRecDepth 100000 in
set_option maxHeartbeats 4000000 in
theorem kt1 (a b c S P D S3 D3 ha : Int) (w : World) (H : KC a b c S P D S3 D3 ha (partV a b c) (upV a b c)) (hway : Way a b c) (d0 : -1152921504606846976 ≤ D) (d1 : D ≤ 1152921504606846976) (z0 : 0 ≤ partV a b c) (z3 : partV a b c ≤ 1152921504606846976) (z4 : 0 ≤ upV a b c) (z5 : upV a b c ≤ 1152921504606846976)
    (f1 : decide (S < -1152921504606846976) = false) (f2 : decide (1152921504606846976 < S) = false) (f3 : decide (P < -1152921504606846976) = false) (f4 : decide (1152921504606846976 < P) = false) (f10 : decide (partV a b c < 0) = false) (f11 : decide (upV a b c < partV a b c) = false) (f12 : decide (1 < upV a b c - partV a b c) = false)
    (f5 : decide (b ≤ c) = true) (f6 : decide (S3 < S) = false) (f7 : decide (-D < D3) = false) (f8 : decide (-1152921504606846976 < S) = true) (f9 : decide (S < 1152921504606846976) = true) :
    Calls Try.prog 11 #[.int .i64 a, .int .i64 b, .int .i64 c] w fun e w' => e = .returned (.bool true) ∧ Below w.heap.size w w' := by
  have HU := Lib.hid (H.hu f8 f9)
  cases hway
  all_goals
    generalize upV a b c = U at *
    generalize partV a b c = L at *
    as_aux_lemma =>
      go_enter Try.func11, Try.ntmps11
      go_wp2_with (first | (go_at_call 45; with_reducible (first | refine (H.a1 _).mono ?_ | refine (H.a2 _).mono ?_ | refine (H.a3 _).mono ?_); rintro e w' ⟨rfl, rfl⟩) | (go_at_call 46; with_reducible (first | refine (H.m1 _).mono ?_ | refine (H.m2 _).mono ?_); rintro e w' ⟨rfl, rfl⟩) | (go_at_call 47; with_reducible (first | refine (H.s1 _).mono ?_ | refine (H.s2 _).mono ?_ | refine (H.s3 _).mono ?_ | refine (HU.out _).mono ?_); rintro e w' ⟨rfl, rfl⟩) | (go_at_call 48; refine (H.hh _).mono ?_; rintro e w' ⟨rfl, rfl⟩) | (go_at_call 40; refine (H.p1 _).mono ?_; rintro e w1 ⟨rfl, hb1⟩; have HB1 := Lib.hid hb1; have hz1 := hb1.size; clear hb1) | (go_at_call 42; refine (H.p2 _).mono ?_; rintro e w2 ⟨rfl, hb2⟩; have HB2 := Lib.hid hb2; have hz2 := hb2.size; clear hb2) | (go_at_call 44; refine (H.hl _).mono ?_; rintro e w3 ⟨rfl, hb3⟩; have HB3 := Lib.hid hb3; clear hb3))
      go_ret
      exact ⟨rfl, (HB1.out.trans (HB2.out.mono hz1)).trans (HB3.out.mono (Nat.le_trans hz1 hz2))⟩
set_option maxRecDepth 100000 in
set_option maxHeartbeats 4000000 in
theorem kt2 (a b c S P D S3 D3 ha : Int) (w : World) (H : KC a b c S P D S3 D3 ha (partV a b c) (upV a b c)) (hway : Way a b c) (d0 : -1152921504606846976 ≤ D) (d1 : D ≤ 1152921504606846976) (z0 : 0 ≤ partV a b c) (z3 : partV a b c ≤ 1152921504606846976) (z4 : 0 ≤ upV a b c) (z5 : upV a b c ≤ 1152921504606846976)
    (f1 : decide (S < -1152921504606846976) = false) (f2 : decide (1152921504606846976 < S) = false) (f3 : decide (P < -1152921504606846976) = false) (f4 : decide (1152921504606846976 < P) = false) (f10 : decide (partV a b c < 0) = false) (f11 : decide (upV a b c < partV a b c) = false) (f12 : decide (1 < upV a b c - partV a b c) = false)
    (f5 : decide (b ≤ c) = true) (f6 : decide (S3 < S) = false) (f7 : decide (-D < D3) = false) (f8 : decide (-1152921504606846976 < S) = true) (f9 : decide (S < 1152921504606846976) = false) :
    Calls Try.prog 11 #[.int .i64 a, .int .i64 b, .int .i64 c] w fun e w' => e = .returned (.bool true) ∧ Below w.heap.size w w' := by
  cases hway
  all_goals
    generalize upV a b c = U at *
    generalize partV a b c = L at *
    as_aux_lemma =>
      go_enter Try.func11, Try.ntmps11
      go_wp2_with (first | (go_at_call 45; with_reducible (first | refine (H.a1 _).mono ?_ | refine (H.a2 _).mono ?_ | refine (H.a3 _).mono ?_); rintro e w' ⟨rfl, rfl⟩) | (go_at_call 46; with_reducible (first | refine (H.m1 _).mono ?_ | refine (H.m2 _).mono ?_); rintro e w' ⟨rfl, rfl⟩) | (go_at_call 47; with_reducible (first | refine (H.s1 _).mono ?_ | refine (H.s2 _).mono ?_ | refine (H.s3 _).mono ?_ | refine (HU.out _).mono ?_); rintro e w' ⟨rfl, rfl⟩) | (go_at_call 48; refine (H.hh _).mono ?_; rintro e w' ⟨rfl, rfl⟩) | (go_at_call 40; refine (H.p1 _).mono ?_; rintro e w1 ⟨rfl, hb1⟩; have HB1 := Lib.hid hb1; have hz1 := hb1.size; clear hb1) | (go_at_call 42; refine (H.p2 _).mono ?_; rintro e w2 ⟨rfl, hb2⟩; have HB2 := Lib.hid hb2; have hz2 := hb2.size; clear hb2) | (go_at_call 44; refine (H.hl _).mono ?_; rintro e w3 ⟨rfl, hb3⟩; have HB3 := Lib.hid hb3; clear hb3))
      go_ret
      exact ⟨rfl, (HB1.out.trans (HB2.out.mono hz1)).trans (HB3.out.mono (Nat.le_trans hz1 hz2))⟩
set_option maxRecDepth 100000 in
set_option maxHeartbeats 4000000 in
theorem kt3 (a b c S P D S3 D3 ha : Int) (w : World) (H : KC a b c S P D S3 D3 ha (partV a b c) (upV a b c)) (hway : Way a b c) (d0 : -1152921504606846976 ≤ D) (d1 : D ≤ 1152921504606846976) (z0 : 0 ≤ partV a b c) (z3 : partV a b c ≤ 1152921504606846976) (z4 : 0 ≤ upV a b c) (z5 : upV a b c ≤ 1152921504606846976)
    (f1 : decide (S < -1152921504606846976) = false) (f2 : decide (1152921504606846976 < S) = false) (f3 : decide (P < -1152921504606846976) = false) (f4 : decide (1152921504606846976 < P) = false) (f10 : decide (partV a b c < 0) = false) (f11 : decide (upV a b c < partV a b c) = false) (f12 : decide (1 < upV a b c - partV a b c) = false)
    (f5 : decide (b ≤ c) = true) (f6 : decide (S3 < S) = false) (f7 : decide (-D < D3) = false) (f8 : decide (-1152921504606846976 < S) = false) :
    Calls Try.prog 11 #[.int .i64 a, .int .i64 b, .int .i64 c] w fun e w' => e = .returned (.bool true) ∧ Below w.heap.size w w' := by
  cases hway
  all_goals
    generalize upV a b c = U at *
    generalize partV a b c = L at *
    as_aux_lemma =>
      go_enter Try.func11, Try.ntmps11
      go_wp2_with (first | (go_at_call 45; with_reducible (first | refine (H.a1 _).mono ?_ | refine (H.a2 _).mono ?_ | refine (H.a3 _).mono ?_); rintro e w' ⟨rfl, rfl⟩) | (go_at_call 46; with_reducible (first | refine (H.m1 _).mono ?_ | refine (H.m2 _).mono ?_); rintro e w' ⟨rfl, rfl⟩) | (go_at_call 47; with_reducible (first | refine (H.s1 _).mono ?_ | refine (H.s2 _).mono ?_ | refine (H.s3 _).mono ?_ | refine (HU.out _).mono ?_); rintro e w' ⟨rfl, rfl⟩) | (go_at_call 48; refine (H.hh _).mono ?_; rintro e w' ⟨rfl, rfl⟩) | (go_at_call 40; refine (H.p1 _).mono ?_; rintro e w1 ⟨rfl, hb1⟩; have HB1 := Lib.hid hb1; have hz1 := hb1.size; clear hb1) | (go_at_call 42; refine (H.p2 _).mono ?_; rintro e w2 ⟨rfl, hb2⟩; have HB2 := Lib.hid hb2; have hz2 := hb2.size; clear hb2) | (go_at_call 44; refine (H.hl _).mono ?_; rintro e w3 ⟨rfl, hb3⟩; have HB3 := Lib.hid hb3; clear hb3))
      go_ret
      exact ⟨rfl, (HB1.out.trans (HB2.out.mono hz1)).trans (HB3.out.mono (Nat.le_trans hz1 hz2))⟩
set_option maxRecDepth 100000 in
set_option maxHeartbeats 4000000 in
theorem kf1 (a b c S P D S3 D3 ha : Int) (w : World) (H : KC a b c S P D S3 D3 ha (partV a b c) (upV a b c)) (hway : Way a b c) (d0 : -1152921504606846976 ≤ D) (d1 : D ≤ 1152921504606846976) (z0 : 0 ≤ partV a b c) (z3 : partV a b c ≤ 1152921504606846976) (z4 : 0 ≤ upV a b c) (z5 : upV a b c ≤ 1152921504606846976)
    (f1 : decide (S < -1152921504606846976) = false) (f2 : decide (1152921504606846976 < S) = false) (f3 : decide (P < -1152921504606846976) = false) (f4 : decide (1152921504606846976 < P) = false) (f10 : decide (partV a b c < 0) = false) (f11 : decide (upV a b c < partV a b c) = false) (f12 : decide (1 < upV a b c - partV a b c) = false)
    (f5 : decide (b ≤ c) = false) (f8 : decide (-1152921504606846976 < S) = true) (f9 : decide (S < 1152921504606846976) = true) :
    Calls Try.prog 11 #[.int .i64 a, .int .i64 b, .int .i64 c] w fun e w' => e = .returned (.bool true) ∧ Below w.heap.size w w' := by
  have HU := Lib.hid (H.hu f8 f9)
  cases hway
  all_goals
    generalize upV a b c = U at *
    generalize partV a b c = L at *
    as_aux_lemma =>
      go_enter Try.func11, Try.ntmps11
      go_wp2_with (first | (go_at_call 45; with_reducible (first | refine (H.a1 _).mono ?_ | refine (H.a2 _).mono ?_ | refine (H.a3 _).mono ?_); rintro e w' ⟨rfl, rfl⟩) | (go_at_call 46; with_reducible (first | refine (H.m1 _).mono ?_ | refine (H.m2 _).mono ?_); rintro e w' ⟨rfl, rfl⟩) | (go_at_call 47; with_reducible (first | refine (H.s1 _).mono ?_ | refine (H.s2 _).mono ?_ | refine (H.s3 _).mono ?_ | refine (HU.out _).mono ?_); rintro e w' ⟨rfl, rfl⟩) | (go_at_call 48; refine (H.hh _).mono ?_; rintro e w' ⟨rfl, rfl⟩) | (go_at_call 40; refine (H.p1 _).mono ?_; rintro e w1 ⟨rfl, hb1⟩; have HB1 := Lib.hid hb1; have hz1 := hb1.size; clear hb1) | (go_at_call 42; refine (H.p2 _).mono ?_; rintro e w2 ⟨rfl, hb2⟩; have HB2 := Lib.hid hb2; have hz2 := hb2.size; clear hb2) | (go_at_call 44; refine (H.hl _).mono ?_; rintro e w3 ⟨rfl, hb3⟩; have HB3 := Lib.hid hb3; clear hb3))
      go_ret
      exact ⟨rfl, (HB1.out.trans (HB2.out.mono hz1)).trans (HB3.out.mono (Nat.le_trans hz1 hz2))⟩
set_option maxRecDepth 100000 in
set_option maxHeartbeats 4000000 in
theorem kf2 (a b c S P D S3 D3 ha : Int) (w : World) (H : KC a b c S P D S3 D3 ha (partV a b c) (upV a b c)) (hway : Way a b c) (d0 : -1152921504606846976 ≤ D) (d1 : D ≤ 1152921504606846976) (z0 : 0 ≤ partV a b c) (z3 : partV a b c ≤ 1152921504606846976) (z4 : 0 ≤ upV a b c) (z5 : upV a b c ≤ 1152921504606846976)
    (f1 : decide (S < -1152921504606846976) = false) (f2 : decide (1152921504606846976 < S) = false) (f3 : decide (P < -1152921504606846976) = false) (f4 : decide (1152921504606846976 < P) = false) (f10 : decide (partV a b c < 0) = false) (f11 : decide (upV a b c < partV a b c) = false) (f12 : decide (1 < upV a b c - partV a b c) = false)
    (f5 : decide (b ≤ c) = false) (f8 : decide (-1152921504606846976 < S) = true) (f9 : decide (S < 1152921504606846976) = false) :
    Calls Try.prog 11 #[.int .i64 a, .int .i64 b, .int .i64 c] w fun e w' => e = .returned (.bool true) ∧ Below w.heap.size w w' := by
  cases hway
  all_goals
    generalize upV a b c = U at *
    generalize partV a b c = L at *
    as_aux_lemma =>
      go_enter Try.func11, Try.ntmps11
      go_wp2_with (first | (go_at_call 45; with_reducible (first | refine (H.a1 _).mono ?_ | refine (H.a2 _).mono ?_ | refine (H.a3 _).mono ?_); rintro e w' ⟨rfl, rfl⟩) | (go_at_call 46; with_reducible (first | refine (H.m1 _).mono ?_ | refine (H.m2 _).mono ?_); rintro e w' ⟨rfl, rfl⟩) | (go_at_call 47; with_reducible (first | refine (H.s1 _).mono ?_ | refine (H.s2 _).mono ?_ | refine (H.s3 _).mono ?_ | refine (HU.out _).mono ?_); rintro e w' ⟨rfl, rfl⟩) | (go_at_call 48; refine (H.hh _).mono ?_; rintro e w' ⟨rfl, rfl⟩) | (go_at_call 40; refine (H.p1 _).mono ?_; rintro e w1 ⟨rfl, hb1⟩; have HB1 := Lib.hid hb1; have hz1 := hb1.size; clear hb1) | (go_at_call 42; refine (H.p2 _).mono ?_; rintro e w2 ⟨rfl, hb2⟩; have HB2 := Lib.hid hb2; have hz2 := hb2.size; clear hb2) | (go_at_call 44; refine (H.hl _).mono ?_; rintro e w3 ⟨rfl, hb3⟩; have HB3 := Lib.hid hb3; clear hb3))
      go_ret
      exact ⟨rfl, (HB1.out.trans (HB2.out.mono hz1)).trans (HB3.out.mono (Nat.le_trans hz1 hz2))⟩
set_option maxRecDepth 100000 in
set_option maxHeartbeats 4000000 in
theorem kf3 (a b c S P D S3 D3 ha : Int) (w : World) (H : KC a b c S P D S3 D3 ha (partV a b c) (upV a b c)) (hway : Way a b c) (d0 : -1152921504606846976 ≤ D) (d1 : D ≤ 1152921504606846976) (z0 : 0 ≤ partV a b c) (z3 : partV a b c ≤ 1152921504606846976) (z4 : 0 ≤ upV a b c) (z5 : upV a b c ≤ 1152921504606846976)
    (f1 : decide (S < -1152921504606846976) = false) (f2 : decide (1152921504606846976 < S) = false) (f3 : decide (P < -1152921504606846976) = false) (f4 : decide (1152921504606846976 < P) = false) (f10 : decide (partV a b c < 0) = false) (f11 : decide (upV a b c < partV a b c) = false) (f12 : decide (1 < upV a b c - partV a b c) = false)
    (f5 : decide (b ≤ c) = false) (f8 : decide (-1152921504606846976 < S) = false) :
    Calls Try.prog 11 #[.int .i64 a, .int .i64 b, .int .i64 c] w fun e w' => e = .returned (.bool true) ∧ Below w.heap.size w w' := by
  cases hway
  all_goals
    generalize upV a b c = U at *
    generalize partV a b c = L at *
    as_aux_lemma =>
      go_enter Try.func11, Try.ntmps11
      go_wp2_with (first | (go_at_call 45; with_reducible (first | refine (H.a1 _).mono ?_ | refine (H.a2 _).mono ?_ | refine (H.a3 _).mono ?_); rintro e w' ⟨rfl, rfl⟩) | (go_at_call 46; with_reducible (first | refine (H.m1 _).mono ?_ | refine (H.m2 _).mono ?_); rintro e w' ⟨rfl, rfl⟩) | (go_at_call 47; with_reducible (first | refine (H.s1 _).mono ?_ | refine (H.s2 _).mono ?_ | refine (H.s3 _).mono ?_ | refine (HU.out _).mono ?_); rintro e w' ⟨rfl, rfl⟩) | (go_at_call 48; refine (H.hh _).mono ?_; rintro e w' ⟨rfl, rfl⟩) | (go_at_call 40; refine (H.p1 _).mono ?_; rintro e w1 ⟨rfl, hb1⟩; have HB1 := Lib.hid hb1; have hz1 := hb1.size; clear hb1) | (go_at_call 42; refine (H.p2 _).mono ?_; rintro e w2 ⟨rfl, hb2⟩; have HB2 := Lib.hid hb2; have hz2 := hb2.size; clear hb2) | (go_at_call 44; refine (H.hl _).mono ?_; rintro e w3 ⟨rfl, hb3⟩; have HB3 := Lib.hid hb3; clear hb3))
      go_ret
      exact ⟨rfl, (HB1.out.trans (HB2.out.mono hz1)).trans (HB3.out.mono (Nat.le_trans hz1 hz2))⟩
theorem keeps_calls (a b c : Int) (w : World) : Calls Try.prog 11 #[.int .i64 a, .int .i64 b, .int .i64 c] w fun e w' => e = .returned (.bool true) ∧ Below w.heap.size w w' := by
  have hda := hd_range a; have hdb := hd_range b
  have hS := hd_range (hd a + hd b); have hP := hd_range (hd a * hd b); have hD := hd_range (hd b - hd a)
  have hpu := kp_part_up a b c
  have hu : addV a b > -1152921504606846976 → addV a b < 1152921504606846976 → subV (addV a b) b = hd a := by
    intro h1 h2
    have e4 : addV a b = hd a + hd b := by
      unfold addV at h1 h2 ⊢
      generalize hd a + hd b = z at *
      unfold hd at h1 h2 ⊢; split at h1
      · omega
      · rename_i g; rw [if_neg g]; split at h1
        · rename_i g; rw [if_pos g] at h2; rw [if_neg ‹_›] at h2; omega
        · rename_i g; rw [if_neg g]
    unfold subV; rw [kp_id (x := addV a b) hS, e4, show hd a + hd b - hd b = hd a from by omega]; exact kp_id hda
  have H : KC a b c (addV a b) (hd (hd a * hd b)) (subV b a) (addV a c) (subV a c) (hd a) (partV a b c) (upV a b c) :=
    { a1 := add_calls a b
      a2 := fun w => (show addV b a = addV a b by unfold addV; rw [Int.add_comm]) ▸ add_calls b a w
      a3 := add_calls a c
      m1 := mul_calls a b
      m2 := fun w => (show hd (hd b * hd a) = hd (hd a * hd b) by rw [Int.mul_comm]) ▸ mul_calls b a w
      s1 := fun w => (show subV a b = -subV b a by unfold subV; rw [← hd_neg, Int.neg_sub]) ▸ sub_calls a b w
      s2 := sub_calls b a
      s3 := sub_calls a c
      hh := hold_calls a
      p1 := part_calls a b c
      p2 := up_calls a b c
      hl := lives_calls
      hu := fun h1 h2 w => hu (of_decide_eq_true h1) (of_decide_eq_true h2) ▸ sub_calls (addV a b) b w }
  have hway := way a b c
  have d : -1152921504606846976 ≤ subV b a ∧ subV b a ≤ 1152921504606846976 := hD
  have f1 : decide (addV a b < -1152921504606846976) = false := decide_eq_false (Int.not_lt.2 hS.1)
  have f2 : decide (1152921504606846976 < addV a b) = false := decide_eq_false (Int.not_lt.2 hS.2)
  have f3 : decide (hd (hd a * hd b) < -1152921504606846976) = false := decide_eq_false (by omega)
  have f4 : decide (1152921504606846976 < hd (hd a * hd b)) = false := decide_eq_false (by omega)
  have f10 : decide (partV a b c < 0) = false := decide_eq_false (by omega)
  have f11 : decide (upV a b c < partV a b c) = false := decide_eq_false (by omega)
  have f12 : decide (1 < upV a b c - partV a b c) = false := decide_eq_false (by omega)
  by_cases hbc : b ≤ c
  · have m1 : addV a b ≤ addV a c := by unfold addV; exact kp_mono (by have := kp_mono hbc; omega)
    have m2 : subV a c ≤ -subV b a := by
      rw [show -subV b a = subV a b by unfold subV; rw [← hd_neg, Int.neg_sub]]
      unfold subV; exact kp_mono (by have := kp_mono hbc; omega)
    have f5 : decide (b ≤ c) = true := decide_eq_true hbc
    have f6 : decide (addV a c < addV a b) = false := decide_eq_false (by omega)
    have f7 : decide (-subV b a < subV a c) = false := decide_eq_false (by omega)
    by_cases hs1 : -1152921504606846976 < addV a b
    · by_cases hs2 : addV a b < 1152921504606846976
      · exact kt1 a b c _ _ _ _ _ _ w H hway d.1 d.2 hpu.1 hpu.2.2.2.1 (by omega) hpu.2.2.2.2 f1 f2 f3 f4 f10 f11 f12 f5 f6 f7 (decide_eq_true hs1) (decide_eq_true hs2)
      · exact kt2 a b c _ _ _ _ _ _ w H hway d.1 d.2 hpu.1 hpu.2.2.2.1 (by omega) hpu.2.2.2.2 f1 f2 f3 f4 f10 f11 f12 f5 f6 f7 (decide_eq_true hs1) (decide_eq_false hs2)
    · exact kt3 a b c _ _ _ _ _ _ w H hway d.1 d.2 hpu.1 hpu.2.2.2.1 (by omega) hpu.2.2.2.2 f1 f2 f3 f4 f10 f11 f12 f5 f6 f7 (decide_eq_false hs1)
  · have f5 : decide (b ≤ c) = false := decide_eq_false hbc
    by_cases hs1 : -1152921504606846976 < addV a b
    · by_cases hs2 : addV a b < 1152921504606846976
      · exact kf1 a b c _ _ _ _ _ _ w H hway d.1 d.2 hpu.1 hpu.2.2.2.1 (by omega) hpu.2.2.2.2 f1 f2 f3 f4 f10 f11 f12 f5 (decide_eq_true hs1) (decide_eq_true hs2)
      · exact kf2 a b c _ _ _ _ _ _ w H hway d.1 d.2 hpu.1 hpu.2.2.2.1 (by omega) hpu.2.2.2.2 f1 f2 f3 f4 f10 f11 f12 f5 (decide_eq_true hs1) (decide_eq_false hs2)
    · exact kf3 a b c _ _ _ _ _ _ w H hway d.1 d.2 hpu.1 hpu.2.2.2.1 (by omega) hpu.2.2.2.2 f1 f2 f3 f4 f10 f11 f12 f5 (decide_eq_false hs1)
end Go.Proofs.Ytkgcoeagifjbpaa.SatDiv
