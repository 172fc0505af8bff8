/- The law ShareTells: what any floats are, whether they are the same, which stands ahead, and which parts of a whole they are, is the document's. For all floats and all numbers. -/
import Derived.Test.YtclfambjkolckaaShareU
import Derived.Test.YtclfambjkolckaaShareLives
import Derived.OpenShut
namespace Go.Proofs.Ytclfambjkolckaa.Fl
open Go Go.RowKit Ieee Go.Proofs.Ytclfambjkolckaa.ShareM
set_option linter.unusedVariables false
set_option linter.unusedSimpArgs false
set_option maxRecDepth 20000
theorem smv_self (x : Nat) : smv x x = true := by unfold smv; rw [decide_eq_true (show x = x from rfl), Bool.or_true]
theorem rsame_self (x : Nat) (hx : x < 18446744073709551616) (w : World) : Calls Try.prog 72 #[.float .f64 x, .float .f64 x] w fun e w' => e = .returned (.bool true) ∧ w = w' :=
  (rsame_calls x x hx hx w).mono fun e w' he => ⟨by rw [he.1, smv_self], he.2⟩
theorem ofv_lt (m : Nat) (h : m ≤ 1048576) : ofv m < 18446744073709551616 := by have := (ofv_vl h).2; omega
theorem clv_lt (x : Nat) (h : x < 18446744073709551616) : clv x < 18446744073709551616 := by unfold clv; split <;> (try split) <;> omega
set_option maxHeartbeats 2000000 in
theorem tells_way (x y p q k u v : Nat) (n ka un1 un2 : Int) (sm ls : Bool) (w : World)
    (h1 : ∀ w, Calls Try.prog 78 #[.float .f64 x] w fun e w' => e = .returned (.int .i64 ka) ∧ w = w')
    (h2 : ∀ w, Calls Try.prog 79 #[.float .f64 x] w fun e w' => e = .returned (.int .i64 ka) ∧ w = w')
    (h3 : ∀ w, Calls Try.prog 80 #[.float .f64 x, .float .f64 y] w fun e w' => e = .returned (.bool sm) ∧ w = w')
    (h4 : ∀ w, Calls Try.prog 72 #[.float .f64 x, .float .f64 y] w fun e w' => e = .returned (.bool sm) ∧ w = w')
    (h5 : ∀ w, Calls Try.prog 81 #[.float .f64 x, .float .f64 y] w fun e w' => e = .returned (.bool ls) ∧ w = w')
    (h6 : ∀ w, Calls Try.prog 82 #[.float .f64 x, .float .f64 y] w fun e w' => e = .returned (.bool ls) ∧ w = w')
    (h7 : ∀ w, Calls Try.prog 76 #[.float .f64 x] w fun e w' => e = .returned (.tuple #[.int .i64 un1, .int .i64 un2]) ∧ w = w')
    (h8 : ∀ w, Calls Try.prog 77 #[.float .f64 x] w fun e w' => e = .returned (.tuple #[.int .i64 un1, .int .i64 un2]) ∧ w = w')
    (h9 : ∀ w, Calls Try.prog 83 #[.int .i64 n] w fun e w' => e = .returned (.float .f64 u) ∧ w = w')
    (h10 : ∀ w, Calls Try.prog 84 #[.int .i64 n] w fun e w' => e = .returned (.float .f64 u) ∧ w = w')
    (h11 : ∀ w, Calls Try.prog 85 #[.float .f64 x] w fun e w' => e = .returned (.float .f64 v) ∧ w = w')
    (h12 : ∀ w, Calls Try.prog 86 #[.float .f64 x] w fun e w' => e = .returned (.float .f64 v) ∧ w = w')
    (h13 : ∀ w, Calls Try.prog 72 #[.float .f64 u, .float .f64 u] w fun e w' => e = .returned (.bool true) ∧ w = w')
    (h14 : ∀ w, Calls Try.prog 72 #[.float .f64 v, .float .f64 v] w fun e w' => e = .returned (.bool true) ∧ w = w')
    (h15 : ∀ w, Calls Try.prog 68 #[] w fun e w' => e = .returned (.bool true) ∧ Below w.heap.size w w') :
    Calls Try.prog 11 #[.int .u64 x, .int .u64 y, .int .i64 n] w fun e w' => e = .returned (.bool true) ∧ Below w.heap.size w w' := by
  have H1 := Lib.hid h1; have H2 := Lib.hid h2; have H3 := Lib.hid h3; have H4 := Lib.hid h4; have H5 := Lib.hid h5; have H6 := Lib.hid h6; have H7 := Lib.hid h7; have H8 := Lib.hid h8; have H9 := Lib.hid h9; have H10 := Lib.hid h10; have H11 := Lib.hid h11; have H12 := Lib.hid h12; have H13 := Lib.hid h13; have H14 := Lib.hid h14; have H15 := Lib.hid h15
  clear h1 h2 h3 h4 h5 h6 h7 h8 h9 h10 h11 h12 h13 h14 h15
  have hf := f64from
  go_enter Try.func11, Try.ntmps11
  go_wp2_with (first | ((with_reducible refine (H1.out _).mono ?_); rintro e w' ⟨rfl, rfl⟩) | ((with_reducible refine (H2.out _).mono ?_); rintro e w' ⟨rfl, rfl⟩) | ((with_reducible refine (H3.out _).mono ?_); rintro e w' ⟨rfl, rfl⟩) | ((with_reducible refine (H4.out _).mono ?_); rintro e w' ⟨rfl, rfl⟩) | ((with_reducible refine (H5.out _).mono ?_); rintro e w' ⟨rfl, rfl⟩) | ((with_reducible refine (H6.out _).mono ?_); rintro e w' ⟨rfl, rfl⟩) | ((with_reducible refine (H7.out _).mono ?_); rintro e w' ⟨rfl, rfl⟩) | ((with_reducible refine (H8.out _).mono ?_); rintro e w' ⟨rfl, rfl⟩) | ((with_reducible refine (H9.out _).mono ?_); rintro e w' ⟨rfl, rfl⟩) | ((with_reducible refine (H10.out _).mono ?_); rintro e w' ⟨rfl, rfl⟩) | ((with_reducible refine (H11.out _).mono ?_); rintro e w' ⟨rfl, rfl⟩) | ((with_reducible refine (H12.out _).mono ?_); rintro e w' ⟨rfl, rfl⟩) | ((with_reducible refine (H13.out _).mono ?_); rintro e w' ⟨rfl, rfl⟩) | ((with_reducible refine (H14.out _).mono ?_); rintro e w' ⟨rfl, rfl⟩) | ((with_reducible refine (H15.out _).mono ?_); rintro e w' ⟨rfl, hb⟩))
  go_ret
  exact ⟨rfl, hb⟩
theorem kind_id {x : Nat} (hx : x < 18446744073709551616) (w : World) : Calls Try.prog 78 #[.float .f64 x] w fun e w' => e = .returned (.int .i64 (cl x)) ∧ w = w' := kind_is hx rfl w
theorem tells_calls (x y n : Int) (w : World) (hx : (Lit.int .u64 x).wf = true) (hy : (Lit.int .u64 y).wf = true) (hn : (Lit.int .i64 n).wf = true) :
    Calls Try.prog 11 #[.int .u64 x, .int .u64 y, .int .i64 n] w fun e w' => e = .returned (.bool true) ∧ Below w.heap.size w w' := by
  have b1 := bounds_u64 hx
  have b2 := bounds_u64 hy
  obtain ⟨X, rfl⟩ := Int.eq_ofNat_of_zero_le b1.1
  obtain ⟨Y, rfl⟩ := Int.eq_ofNat_of_zero_le b2.1
  have hX : X < 18446744073709551616 := by omega
  have hY : Y < 18446744073709551616 := by omega
  obtain ⟨m, hm⟩ : ∃ m : Nat, (m : Int) = max 0 (min n 1048576) := ⟨(max 0 (min n 1048576)).toNat, by omega⟩
  have hv := ofv_lt m (by omega)
  exact tells_way X Y 0 0 0 (ofv m) (clv X) n (cl X) (un X).1 (un X).2 (smv X Y) (lsv X Y) w (kind_id hX) (rkind_is hX rfl) (same_calls X Y) (rsame_calls X Y hX hY) (less_calls X Y hX hY) (rless_calls X Y hX hY) (units_calls X hX) (runits_calls X hX) (of_calls n m hm) (rof_calls n m hm) (clamp_calls X hX) (rclamp_calls X hX) (rsame_self _ hv) (rsame_self _ (clv_lt X hX)) lives_calls
end Go.Proofs.Ytclfambjkolckaa.Fl
