/- The law ShareOrders: units come back, and floats stand in a strict order. For all floats and all numbers. -/
import Derived.Test.YtclfambjkolckaaShareTells
namespace Go.Proofs.Ytclfambjkolckaa.Fl
open Go Go.RowKit Ieee Go.Proofs.Ytclfambjkolckaa.ShareM
set_option linter.unusedVariables false
set_option linter.unusedSimpArgs false
set_option maxRecDepth 20000
theorem same_is {x y : Nat} {b : Bool} (h : smv x y = b) (w : World) : Calls Try.prog 80 #[.float .f64 x, .float .f64 y] w fun e w' => e = .returned (.bool b) ∧ w = w' :=
  (same_calls x y w).mono fun e w' he => ⟨by rw [he.1, h], he.2⟩
set_option maxHeartbeats 4000000 in
theorem orders_way (x y z u v m : Nat) (n q1 : Int) (p q r s : Bool) (w : World) (hpqr : (p && q && !r) = false) (hps : (p && s) = false)
    (h1 : ∀ w, Calls Try.prog 81 #[.float .f64 x, .float .f64 y] w fun e w' => e = .returned (.bool p) ∧ w = w')
    (h2 : ∀ w, Calls Try.prog 81 #[.float .f64 y, .float .f64 z] w fun e w' => e = .returned (.bool q) ∧ w = w')
    (h3 : ∀ w, Calls Try.prog 81 #[.float .f64 x, .float .f64 z] w fun e w' => e = .returned (.bool r) ∧ w = w')
    (h4 : ∀ w, Calls Try.prog 81 #[.float .f64 y, .float .f64 x] w fun e w' => e = .returned (.bool s) ∧ w = w')
    (h5 : ∀ w, Calls Try.prog 80 #[.float .f64 x, .float .f64 y] w fun e w' => e = .returned (.bool (!(p || s))) ∧ w = w')
    (h6 : ∀ w, Calls Try.prog 80 #[.float .f64 x, .float .f64 x] w fun e w' => e = .returned (.bool true) ∧ w = w')
    (h7 : ∀ w, Calls Try.prog 83 #[.int .i64 n] w fun e w' => e = .returned (.float .f64 u) ∧ w = w')
    (h8 : ∀ w, Calls Try.prog 76 #[.float .f64 u] w fun e w' => e = .returned (.tuple #[.int .i64 m, .int .i64 0]) ∧ w = w')
    (h9 : ∀ w, Calls Try.prog 85 #[.float .f64 x] w fun e w' => e = .returned (.float .f64 v) ∧ w = w')
    (h10 : ∀ w, Calls Try.prog 76 #[.float .f64 v] w fun e w' => e = .returned (.tuple #[.int .i64 q1, .int .i64 0]) ∧ w = w')
    (hq0 : 0 ≤ q1) (hq1 : q1 ≤ 1048576)
    (hmn : ∀ w, Sem.run Try.prog (Go.Builtin.min_ #[3, 3] 3 #[.int .i64 n, .int .i64 1048576]) w = .ok (.int .i64 (min n 1048576)) w)
    (hmx : ∀ w, Sem.run Try.prog (Go.Builtin.max_ #[3, 3] 3 #[.int .i64 0, .int .i64 (min n 1048576)]) w = .ok (.int .i64 (m : Int)) w)
    (h15 : ∀ w, Calls Try.prog 68 #[] w fun e w' => e = .returned (.bool true) ∧ Below w.heap.size w w') :
    Calls Try.prog 12 #[.agg #[.int .u64 x, .int .u64 y, .int .u64 z], .int .i64 n] w fun e w' => e = .returned (.bool true) ∧ Below w.heap.size w w' := by
  have H1 := Lib.hid h1; have H2 := Lib.hid h2; have H3 := Lib.hid h3; have H4 := Lib.hid h4; have H5 := Lib.hid h5; have H6 := Lib.hid h6; have H7 := Lib.hid h7; have H8 := Lib.hid h8; have H9 := Lib.hid h9; have H10 := Lib.hid h10; have H15 := Lib.hid h15
  clear h1 h2 h3 h4 h5 h6 h7 h8 h9 h10 h15
  have hf := f64from
  cases p <;> cases q <;> cases r <;> cases s <;> first | exact absurd hpqr (by decide) | exact absurd hps (by decide) |
  (clear hpqr hps
   go_enter Try.func12, Try.ntmps12
   go_wp2
   go_quiet (fail)
   go_wp2_with (first | ((with_reducible refine (H1.out _).mono ?_); rintro e w' ⟨rfl, rfl⟩) | ((with_reducible refine (H2.out _).mono ?_); rintro e w' ⟨rfl, rfl⟩) | ((with_reducible refine (H3.out _).mono ?_); rintro e w' ⟨rfl, rfl⟩) | ((with_reducible refine (H4.out _).mono ?_); rintro e w' ⟨rfl, rfl⟩) | ((with_reducible refine (H5.out _).mono ?_); rintro e w' ⟨rfl, rfl⟩) | ((with_reducible refine (H6.out _).mono ?_); rintro e w' ⟨rfl, rfl⟩) | ((with_reducible refine (H7.out _).mono ?_); rintro e w' ⟨rfl, rfl⟩) | ((with_reducible refine (H8.out _).mono ?_); rintro e w' ⟨rfl, rfl⟩) | ((with_reducible refine (H9.out _).mono ?_); rintro e w' ⟨rfl, rfl⟩) | ((with_reducible refine (H10.out _).mono ?_); rintro e w' ⟨rfl, rfl⟩) | ((with_reducible refine (H15.out _).mono ?_); rintro e w' ⟨rfl, hb⟩))
   go_ret
   exact ⟨rfl, Below.trans (below_drewN ((Below.refl w.heap.size w).alloc (Nat.le_refl _) _) _) (hb.mono (by simp))⟩)
theorem min_int (a b : Int) (ts : Array TypeId) (t : TypeId) (w : World) : Sem.run Try.prog (Go.Builtin.min_ ts t #[.int .i64 a, .int .i64 b]) w = .ok (.int .i64 (min a b)) w := by
  have e0 : Go.Builtin.min_ ts t #[.int .i64 a, .int .i64 b] = (Go.Builtin.min2 (.int .i64 a) (.int .i64 b) >>= fun s => List.foldlM Go.Builtin.min2 s []) := rfl
  have e1 : Go.Builtin.min2 (.int .i64 a) (.int .i64 b) = pure (.int .i64 (if b < a then b else a)) := rfl
  have e2 : (if b < a then b else a) = min a b := by split <;> omega
  rw [e0, e1, e2]; rfl
theorem max_int (a b c : Int) (h : c = max a b) (ts : Array TypeId) (t : TypeId) (w : World) : Sem.run Try.prog (Go.Builtin.max_ ts t #[.int .i64 a, .int .i64 b]) w = .ok (.int .i64 c) w := by
  have e0 : Go.Builtin.max_ ts t #[.int .i64 a, .int .i64 b] = (Go.Builtin.max2 (.int .i64 a) (.int .i64 b) >>= fun s => List.foldlM Go.Builtin.max2 s []) := rfl
  have e1 : Go.Builtin.max2 (.int .i64 a) (.int .i64 b) = pure (.int .i64 (if b > a then b else a)) := rfl
  have e2 : (if b > a then b else a) = c := by split <;> omega
  rw [e0, e1, e2]; rfl
theorem un_ofv {m : Nat} (h : m ≤ 1048576) : un (ofv m) = ((m : Int), 0) := by
  obtain ⟨h1, h2⟩ := ofv_vl h
  have hr : rg (ofv m) = ofv m := by unfold rg; omega
  have hn : ng (ofv m) = false := by unfold ng; rw [Nat.div_eq_of_lt (by omega)]; rfl
  unfold un
  rw [hr, hn, if_neg (by omega), if_pos ⟨h2, .inl rfl⟩, h1]
  have e : m * pw 1054 * 1048576 = m * K1 := by
    have : pw 1074 = pw 1054 * pw 20 := pw_add 1054 20
    unfold K1
    rw [this, show pw 20 = 1048576 from rfl, Nat.mul_assoc]
  rw [e, rhe_exact _ _ K1_pos]
theorem un_clv {x : Nat} (hx : x < 18446744073709551616) : ∃ q : Int, un (clv x) = (q, 0) ∧ 0 ≤ q ∧ q ≤ 1048576 := by
  have h : rg (clv x) ≤ 4607182418800017408 ∧ (ng (clv x) = false ∨ rg (clv x) = 0) := by
    unfold clv
    split
    · exact ⟨by decide, .inl (by decide)⟩
    · rename_i h0
      split
      · exact ⟨by decide, .inl (by decide)⟩
      · rename_i h1
        refine ⟨by omega, .inl ?_⟩
        cases hb : ng x
        · rfl
        · exact absurd (.inr (.inl hb)) h0
  unfold un
  rw [if_neg (by omega), if_pos h]
  refine ⟨_, rfl, by omega, ?_⟩
  have := rhe_le (vl (rg (clv x)) * 1048576) K1 1048576 K1_pos (by
    have h5 := vl_at 1023 0 (by omega) (by omega)
    rw [show (1023 * 4503599627370496 + 0 : Nat) = 4607182418800017408 by omega, Nat.add_zero, ← pw_52, ← pw_add, show 52 + (1023 - 1) = 1074 by omega] at h5
    have h6 := vl_le h.1
    rw [h5] at h6
    rw [Nat.mul_comm]
    exact Nat.mul_le_mul_left _ h6)
  omega
theorem orders_calls (x y z n : Int) (w : World) (hx : (Lit.int .u64 x).wf = true) (hy : (Lit.int .u64 y).wf = true) (hz : (Lit.int .u64 z).wf = true) (hn : (Lit.int .i64 n).wf = true) :
    Calls Try.prog 12 #[.agg #[.int .u64 x, .int .u64 y, .int .u64 z], .int .i64 n] w fun e w' => e = .returned (.bool true) ∧ Below w.heap.size w w' := by
  have b1 := bounds_u64 hx
  have b2 := bounds_u64 hy
  have b3 := bounds_u64 hz
  obtain ⟨X, rfl⟩ := Int.eq_ofNat_of_zero_le b1.1
  obtain ⟨Y, rfl⟩ := Int.eq_ofNat_of_zero_le b2.1
  obtain ⟨Z, rfl⟩ := Int.eq_ofNat_of_zero_le b3.1
  have hX : X < 18446744073709551616 := by omega
  have hY : Y < 18446744073709551616 := by omega
  have hZ : Z < 18446744073709551616 := by omega
  obtain ⟨m, hm⟩ : ∃ m : Nat, (m : Int) = max 0 (min n 1048576) := ⟨(max 0 (min n 1048576)).toNat, by omega⟩
  have hv := ofv_lt m (by omega)
  obtain ⟨q, q1, q2, q3⟩ := un_clv hX
  refine orders_way X Y Z (ofv m) (clv X) m n q (lsv X Y) (lsv Y Z) (lsv X Z) (lsv Y X) w ?_ ?_ (less_calls X Y hX hY) (less_calls Y Z hY hZ) (less_calls X Z hX hZ) (less_calls Y X hY hX) (same_is (smv_lsv hX hY)) (same_is (smv_self X)) (of_calls n m hm) (fun w => (units_calls _ hv w).mono fun e w' he => ⟨by rw [he.1, un_ofv (by omega)], he.2⟩) (clamp_calls X hX) (fun w => (units_calls _ (clv_lt X hX) w).mono fun e w' he => ⟨by rw [he.1, q1], he.2⟩) q2 q3 (min_int _ _ _ _) (max_int _ _ _ hm _ _) lives_calls
  · cases h1 : lsv X Y
    · rfl
    · cases h2 : lsv Y Z
      · rfl
      · rw [lsv_trans h1 h2]; rfl
  · cases h1 : lsv X Y
    · rfl
    · have := lsv_asymm h1
      cases h2 : lsv Y X
      · rfl
      · exact absurd h2 this
end Go.Proofs.Ytclfambjkolckaa.Fl
