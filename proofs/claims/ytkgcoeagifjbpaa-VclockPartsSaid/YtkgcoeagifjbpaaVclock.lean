/- vclock's functions, walked: a clock is a block of two cells. -/
import Derived.Test.YtkgcoeagifjbpaaSatMul
import Derived.Outline
import Derived.Laws.NewBlocks
import Derived.RegionTactic
import Derived.BigRegion
namespace Go.Proofs.Ytkgcoeagifjbpaa.Vclock
open Go.RowKit Go.Proofs.Ytkgcoeagifjbpaa.SatDiv Go.Proofs.YtkgcoeagifjbpaaW.PrintWords Go.Proofs.YtkgcoeagifjbpaaW.PrintLast Go.Proofs.YtkgcoeagifjbpaaW.PrintMore
attribute [local go_sem] max2_int min2_int max_two min_two
set_option linter.unusedVariables false
set_option linter.unusedSimpArgs false

/-- A clock at block g. -/
def Clk (w : World) (g : Nat) (at_ t : Int) : Prop := w.heap[g]? = some (.cells #[.int .i64 at_, .int .i64 t] 75 (0, 0))
theorem Clk.lt {w : World} {g : Nat} {a t : Int} (h : Clk w g a t) : g < w.heap.size := blk_lt h
theorem Clk.c0 {w : World} {g : Nat} {a t : Int} (h : Clk w g a t) : w.cell? ⟨g, 0, none⟩ = some (.int .i64 a) := (blk_cell h 0).trans rfl
theorem Clk.c1 {w : World} {g : Nat} {a t : Int} (h : Clk w g a t) : w.cell? ⟨g, 1, none⟩ = some (.int .i64 t) := (blk_cell h 1).trans rfl
theorem Clk.f {w : World} {g : Nat} {a t : Int} (h : Clk w g a t) (i : Nat) : w.frozen? ⟨g, i, none⟩ = false := blk_frozen h i
theorem Clk.below {w w1 : World} {g : Nat} {a t : Int} (h : Clk w g a t) (hb : Below w.heap.size w w1) : Clk w1 g a t := blk_below h hb
theorem Clk.grown {w w1 : World} {g : Nat} {a t : Int} {row : Option Nat} (h : Clk w g a t) (hb : w.grownBy w1 row) (hne : some g ≠ row) : Clk w1 g a t := blk_grown h hb hne
theorem grown_set (w : World) (g i : Nat) (v : Value) : w.grownBy (w.setCell ⟨g, i, none⟩ v) (some g) :=
  ⟨rfl, rfl, rfl, by simp, fun k hk hne => Below.heap_setCell w _ _ k (fun e => hne (by rw [e]))⟩
/-- what a tick leaves -/
def Ticked (w w' : World) (g : Nat) (a t : Int) : Prop := Clk w' g a t ∧ w.grownBy w' (some g)
theorem ticked (w : World) (g : Nat) (a t a' t' : Int) (h : Clk w g a t) : Ticked w ((w.setCell ⟨g, 0, none⟩ (.int .i64 a')).setCell ⟨g, 1, none⟩ (.int .i64 t')) g a' t' :=
  ⟨blk_put (blk_put h 0 (.int .i64 a') rfl) 1 (.int .i64 t') rfl, (grown_set w g 0 _).trans (grown_set _ g 1 _)⟩

set_option maxRecDepth 100000 in
theorem new_ok (a : Int) (w : World) (h0 : 0 ≤ a) (h1 : a ≤ 1152921504606846976) :
    Calls Try.prog 31 #[.int .i64 a] w fun e w' => e = .returned (.pointer (some ⟨w.heap.size, 0, none⟩)) ∧ w.alloc (.cells #[.int .i64 a, .int .i64 0] 75) = w' := by
  go_enter Try.func31, Try.ntmps31
  go_wp2
  go_ret
  exact ⟨rfl, rfl⟩
theorem new_low (a : Int) (w : World) (h0 : decide (a < 0) = true) :
    Calls Try.prog 31 #[.int .i64 a] w fun e w' => e = .returned (.pointer none) ∧ w = w' := by
  go_enter Try.func31, Try.ntmps31
  go_wp2
  go_ret
  exact ⟨rfl, rfl⟩
theorem new_high (a : Int) (w : World) (h0 : decide (a < 0) = false) (h1 : decide (1152921504606846976 < a) = true) :
    Calls Try.prog 31 #[.int .i64 a] w fun e w' => e = .returned (.pointer none) ∧ w = w' := by
  go_enter Try.func31, Try.ntmps31
  go_wp2
  go_ret
  exact ⟨rfl, rfl⟩
theorem now_ok (g : Nat) (a t : Int) (w : World) (h : Clk w g a t) :
    Calls Try.prog 33 #[.pointer (some ⟨g, 0, none⟩)] w fun e w' => e = .returned (.int .i64 a) ∧ w = w' := by
  have c0 := h.c0; clear h
  go_enter Try.func33, Try.ntmps33
  go_wp2
  go_ret
  exact ⟨rfl, rfl⟩
theorem now_nil (w : World) : Calls Try.prog 33 #[.pointer none] w fun e w' => e = .returned (.int .i64 0) ∧ w = w' := by
  go_enter Try.func33, Try.ntmps33
  go_wp2
  go_ret
  exact ⟨rfl, rfl⟩
theorem ticks_ok (g : Nat) (a t : Int) (w : World) (h : Clk w g a t) :
    Calls Try.prog 39 #[.pointer (some ⟨g, 0, none⟩)] w fun e w' => e = .returned (.int .i64 t) ∧ w = w' := by
  have c1 := h.c1; clear h
  go_enter Try.func39, Try.ntmps39
  go_wp2
  go_ret
  exact ⟨rfl, rfl⟩
theorem ticks_nil (w : World) : Calls Try.prog 39 #[.pointer none] w fun e w' => e = .returned (.int .i64 0) ∧ w = w' := by
  go_enter Try.func39, Try.ntmps39
  go_wp2
  go_ret
  exact ⟨rfl, rfl⟩
def leftV (a u : Int) : Int := if subV u a < 0 then 0 else subV u a
theorem left_ok (g : Nat) (a t u : Int) (w : World) (h : Clk w g a t) :
    Calls Try.prog 37 #[.pointer (some ⟨g, 0, none⟩), .int .i64 u] w fun e w' => e = .returned (.int .i64 (leftV a u)) ∧ w = w' := by
  have c0 := h.c0; clear h
  go_enter Try.func37, Try.ntmps37
  go_wp2_with (first | (go_at_call 47; refine (sub_calls _ _ _).mono ?_; rintro e w' ⟨rfl, rfl⟩) | (go_at_call 67; go_in))
  all_goals (go_ret; refine ⟨ret_int ?_, rfl⟩; unfold leftV; first | (rw [if_pos (by omega)]) | (rw [if_neg (by omega)]) | (split <;> omega))
theorem left_nil (u : Int) (w : World) : Calls Try.prog 37 #[.pointer none, .int .i64 u] w fun e w' => e = .returned (.int .i64 0) ∧ w = w' := by
  go_enter Try.func37, Try.ntmps37
  go_wp2
  go_ret
  exact ⟨rfl, rfl⟩
theorem copy_ok (g : Nat) (a t : Int) (w : World) (h : Clk w g a t) :
    Calls Try.prog 34 #[.pointer (some ⟨g, 0, none⟩)] w fun e w' => e = .returned (.pointer (some ⟨w.heap.size, 0, none⟩)) ∧ Clk w' w.heap.size a t ∧ Below w.heap.size w w' := by
  have c0 := h.c0; have c1 := h.c1; have hlt := h.lt; have hne : ¬ g = w.heap.size := by omega
  clear h
  go_enter Try.func34, Try.ntmps34
  go_wp2
  go_region
  all_goals
    go_wp2
    go_ret
    exact ⟨rfl, by first | exact blk_drew (blk_new w _) | exact blk_new _ _, by first | exact (below_drew (Below.refl _ _)).alloc (Nat.le_refl _) _ | exact below_drew ((Below.refl _ _).alloc (Nat.le_refl _) _)⟩
theorem copy_nil (w : World) : Calls Try.prog 34 #[.pointer none] w fun e w' => e = .returned (.pointer none) ∧ w = w' := by
  go_enter Try.func34, Try.ntmps34
  go_wp2
  go_ret
  exact ⟨rfl, rfl⟩
theorem tick_ok (g : Nat) (a t n : Int) (w : World) (h : Clk w g a t) (hn : decide (n < 0) = false) (hn1 : decide (1099511627776 < n) = false) (ht : 0 ≤ t) (ht1 : t < 1000000) :
    Calls Try.prog 36 #[.pointer (some ⟨g, 0, none⟩), .int .i64 n] w fun e w' => e = .returned (.int .i64 0) ∧ Ticked w w' g (addV a n) (t + 1) := by
  have T := Lib.hid (fun a' t' => ticked w g a t a' t' h)
  have c0 := h.c0; have c1 := h.c1; have f0 := h.f 0; have f1 := h.f 1; clear h
  go_enter Try.func36, Try.ntmps36
  go_wp2_with (first | (go_at_call 45; refine (add_calls _ _ _).mono ?_; rintro e w' ⟨rfl, rfl⟩) | (go_at_call 68; go_in))
  go_end0
  go_wp2
  go_ret
  exact ⟨rfl, T.out _ _⟩
theorem tick_low (g : Nat) (n : Int) (w : World) (hn : decide (n < 0) = true) :
    Calls Try.prog 36 #[.pointer (some ⟨g, 0, none⟩), .int .i64 n] w fun e w' => e = .returned (.int .i64 2) ∧ w = w' := by
  go_enter Try.func36, Try.ntmps36
  go_wp2
  go_ret
  exact ⟨rfl, rfl⟩
theorem tick_high (g : Nat) (n : Int) (w : World) (hn : decide (n < 0) = false) (hn1 : decide (1099511627776 < n) = true) :
    Calls Try.prog 36 #[.pointer (some ⟨g, 0, none⟩), .int .i64 n] w fun e w' => e = .returned (.int .i64 2) ∧ w = w' := by
  go_enter Try.func36, Try.ntmps36
  go_wp2
  go_ret
  exact ⟨rfl, rfl⟩
theorem tick_nil (n : Int) (w : World) : Calls Try.prog 36 #[.pointer none, .int .i64 n] w fun e w' => e = .returned (.int .i64 1) ∧ w = w' := by
  go_enter Try.func36, Try.ntmps36
  go_wp2
  go_ret
  exact ⟨rfl, rfl⟩
end Go.Proofs.Ytkgcoeagifjbpaa.Vclock
