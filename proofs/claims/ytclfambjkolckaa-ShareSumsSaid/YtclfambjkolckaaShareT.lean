/- The greatest float's place, by contract; the document's sum; the examples. -/
import Derived.Test.YtclfambjkolckaaShareS
import Derived.Test.YtclfambjkolckaaShareO
import Derived.Deep.QuietTactic
import Derived.BigQuiet
namespace Go.Proofs.Ytclfambjkolckaa.Fl
open Go Go.RowKit Ieee Go.Proofs.Ytclfambjkolckaa.ShareM
set_option linter.unusedVariables false
set_option linter.unusedSimpArgs false
set_option maxRecDepth 20000
def Words (l : List Nat) : Prop := ∀ k, l.getD k 0 < 18446744073709551616
theorem less_is {x y : Nat} {b : Bool} (hx : x < 18446744073709551616) (hy : y < 18446744073709551616) (h : lsv x y = b) (w : World) : Calls Try.prog 81 #[.float .f64 x, .float .f64 y] w fun e w' => e = .returned (.bool b) ∧ w = w' :=
  (less_calls x y hx hy w).mono fun e w' he => ⟨by rw [he.1, h], he.2⟩
theorem rless_is {x y : Nat} {b : Bool} (hx : x < 18446744073709551616) (hy : y < 18446744073709551616) (h : lsv x y = b) (w : World) : Calls Try.prog 82 #[.float .f64 x, .float .f64 y] w fun e w' => e = .returned (.bool b) ∧ w = w' :=
  (rless_calls x y hx hy w).mono fun e w' he => ⟨by rw [he.1, h], he.2⟩
set_option maxHeartbeats 1000000 in
theorem top_calls (a : Option Addr) (n cap : Nat) (l : List Nat) (w : World) (h : FlRow w a n l) (hw : Words l) (hn : n ≤ 9223372036854775807) :
    Calls Try.prog 70 #[.slice a n cap] w fun e w' => e = .returned (.tuple #[.int .i64 (bst l n : Nat), .bool (decide (0 < n))]) ∧ w = w' := by
  by_cases h0 : n = 0
  · subst h0
    go_enter Try.func70, Try.ntmps70
    go_wp2
    go_loop [4, 9] (fun s i => s = .int .i64 0 ∧ i = .int .i64 0) (fun _ i => 0)
    case atStart => exact ⟨rfl, rfl⟩
    case round =>
      obtain ⟨rfl, rfl⟩ := hrel
      go_wp2
      go_ret2
      exact ⟨rfl, rfl⟩
  · obtain ⟨hl, h2⟩ := h
    obtain ⟨b, off, rfl, hc⟩ := h2 h0
    have hpos : decide (0 < n) = true := decide_eq_true (by omega)
    rw [hpos]
    have hpos2 : decide ((0 : Int) < (n : Int)) = true := decide_eq_true (by omega)
    have hpos3 : 0 < n := by omega
    have HL := Lib.hid hl; have HC := Lib.hid hc; have HW := Lib.hid hw; clear h2 hc hw h0 hl hpos
    go_enter Try.func70, Try.ntmps70
    go_wp2
    go_loop [4, 9] (fun s i => ∃ k : Nat, k ≤ n ∧ i = .int .i64 k ∧ s = .int .i64 (bst l k : Nat)) (fun _ i => n - (intOf i).toNat)
    case atStart => exact ⟨0, by omega, rfl, rfl⟩
    case round =>
      obtain ⟨k, hk, rfl, rfl⟩ := hrel
      by_cases hlt : k < n
      · have hb : bst l k < n := by
          rcases Nat.eq_zero_or_pos k with h | h
          · subst h; unfold bst; omega
          · have := bst_in l h; omega
        have c1 := HC.out k hlt
        have c2 := HC.out (bst l k) hb
        have hs : bst l (k + 1) = if lsv (l.getD (bst l k) 0) (l.getD k 0) then k else bst l k := rfl
        have HX := Lib.hid (HW.out k); have HY := Lib.hid (HW.out (bst l k)); have HS := Lib.hid hs; clear hs
        generalize l.getD k 0 = x at c1 HX HS
        generalize hq : bst l k = q at *
        generalize l.getD q 0 = y at c2 HY HS
        clear hq
        cases hv : lsv y x
        · have HV := Lib.hid hv; clear hv
          go_wp2_with ((with_reducible refine (less_is HY.out HX.out HV.out _).mono ?_); rintro e w' ⟨rfl, rfl⟩)
          go_round
          case rel => exact ⟨k + 1, by omega, by go_num, by rw [HS.out, HV.out]; rfl⟩
          case measure => simp [intOf]; omega
        · have HV := Lib.hid hv; clear hv
          go_wp2_with ((with_reducible refine (less_is HY.out HX.out HV.out _).mono ?_); rintro e w' ⟨rfl, rfl⟩)
          go_round
          case rel => exact ⟨k + 1, by omega, by go_num, by rw [HS.out, HV.out]; rfl⟩
          case measure => simp [intOf]; omega
      · obtain rfl : k = n := by omega
        go_wp2
        go_ret2
        exact ⟨rfl, rfl⟩
set_option maxHeartbeats 1000000 in
theorem rtotal_calls (a : Option Addr) (n cap : Nat) (l : List Nat) (w : World) (h : FlRow w a n l) (hn : n ≤ 9223372036854775807) :
    Calls Try.prog 74 #[.slice a n cap] w (SumPost l w) := by
  by_cases h0 : n = 0
  · subst h0
    obtain rfl : l = [] := List.eq_nil_of_length_eq_zero h.1
    go_enter Try.func74, Try.ntmps74
    go_wp2
    go_loop [3, 4] (fun s i => s = .float .f64 0 ∧ i = .int .i64 0) (fun _ i => 0)
    case atStart => exact ⟨rfl, rfl⟩
    case round =>
      obtain ⟨rfl, rfl⟩ := hrel
      go_wp2
      go_ret
      exact ⟨0, 0, rfl, ⟨rfl, by decide, by decide⟩, rfl⟩
  · obtain ⟨hl, h2⟩ := h
    obtain ⟨b, off, rfl, hc⟩ := h2 h0
    have HL := Lib.hid hl; have HC := Lib.hid hc; clear h2 hc
    go_enter Try.func74, Try.ntmps74
    go_wp2
    go_loopw [3, 4] (fun s i wr => ∃ k z j : Nat, k ≤ n ∧ i = .int .i64 k ∧ s = .float .f64 z ∧ TotIs (tot (l.take k)) z ∧ wr = w.drewN j) (fun _ i _ => n - (intOf i).toNat)
    case atStart => exact ⟨0, 0, 0, by omega, rfl, rfl, ⟨rfl, by decide, by decide⟩, rfl⟩
    case round =>
      obtain ⟨k, z, j, hk, rfl, rfl, ht, rfl⟩ := hrel
      by_cases hlt : k < n
      · have hcell := HC.out k hlt
        have HT : Hid ((∃ r, floatBits .add .f64 z (l.getD k 0) = some r ∧ TotIs (tot (l.take (k + 1))) r) ∨ (floatBits .add .f64 z (l.getD k 0) = none ∧ ∀ z', 9218868437227405312 < rg z' → z' < 18446744073709551616 → TotIs (tot (l.take (k + 1))) z')) := Lib.hid (tot_more (by have := HL.out; omega) ht)
        clear ht
        generalize l.getD k 0 = x at hcell HT
        rcases HT.out with ⟨r, hr, ht⟩ | ⟨hr, ht⟩
        · have hrun := fun W => run_float_arith (P := Try.prog) W .add 79 .f64 z x r hr
          have HTT := Lib.hid ht; clear HT ht hr
          go_wp2
          go_roundw
          case rel => exact ⟨k + 1, r, j, by omega, by go_num, rfl, HTT.out, rfl⟩
          case measure => simp [intOf]; omega
        · have hrun := fun W => run_add_nan 79 hr W
          have HTT := Lib.hid (ht _ (nanOf_nan z x (w.drewN j)) (nanOf_lt z x (w.drewN j))); clear HT ht hr
          go_wp2
          go_roundw
          case rel => exact ⟨k + 1, _, _, by omega, by go_num, rfl, HTT.out, rfl⟩
          case measure => simp [intOf]; omega
      · obtain rfl : k = n := by omega
        have HTT := Lib.hid ht; clear ht
        go_wp2
        go_ret
        exact ⟨z, j, rfl, by have := HTT.out; rw [← HL.out, List.take_length] at this; exact this, rfl⟩
/-- is i as good as the first k? -/
def allB (l : List Nat) (i : Nat) : Nat → Bool
  | 0 => true
  | k + 1 => if lsv (l.getD i 0) (l.getD k 0) then false else allB l i k
theorem allB_no (l : List Nat) (i : Nat) {j n : Nat} (h : j < n) (hl : lsv (l.getD i 0) (l.getD j 0) = true) : allB l i n = false := by
  induction n with
  | zero => omega
  | succ n ih =>
    unfold allB
    by_cases hc : lsv (l.getD i 0) (l.getD n 0) = true
    · rw [if_pos hc]
    · rw [if_neg hc]
      rcases Nat.lt_or_ge j n with h1 | h1
      · exact ih h1
      · obtain rfl : j = n := by omega
        exact absurd hl hc
theorem allB_yes (l : List Nat) (i n : Nat) (h : ∀ j, j < n → ¬ lsv (l.getD i 0) (l.getD j 0) = true) : allB l i n = true := by
  induction n with
  | zero => rfl
  | succ n ih =>
    unfold allB
    rw [if_neg (h n (by omega))]
    exact ih (fun j hj => h j (by omega))
set_option maxHeartbeats 2000000 in
theorem rtop_calls (a : Option Addr) (n cap : Nat) (l : List Nat) (w : World) (h : FlRow w a n l) (hw : Words l) (hn : n ≤ 9223372036854775807) :
    Calls Try.prog 71 #[.slice a n cap] w fun e w' => e = .returned (.tuple #[.int .i64 (bst l n : Nat), .bool (decide (0 < n))]) ∧ ∃ j, w' = w.drewN j := by
  by_cases h0 : n = 0
  · subst h0
    go_enter Try.func71, Try.ntmps71
    go_wp2
    go_loop [4] (fun i => i = .int .i64 0) (fun i => 0)
    case atStart => exact rfl
    case round =>
      obtain rfl := hrel
      go_wp2
      go_ret2
      exact ⟨rfl, 0, rfl⟩
  · obtain ⟨hl, h2⟩ := h
    obtain ⟨b, off, rfl, hc⟩ := h2 h0
    have hpos : decide (0 < n) = true := decide_eq_true (by omega)
    rw [hpos]
    have hbn : bst l n < n := bst_in l (by omega)
    have HF := Lib.hid (bst_first l n); have HM := Lib.hid (bst_max l n)
    have HL := Lib.hid hl; have HC := Lib.hid hc; have HW := Lib.hid hw; clear h2 hc hw h0 hl hpos
    generalize hB : bst l n = B at *
    clear hB
    go_enter Try.func71, Try.ntmps71
    go_wp2
    go_loopw [4, 5, 6] (fun i b k wr => ∃ i' j : Nat, i' ≤ B ∧ i = .int .i64 i' ∧ wr = w.drewN j) (fun i _ _ _ => n - (intOf i).toNat)
    case atStart => exact ⟨0, 0, by omega, rfl, rfl⟩
    case round =>
      obtain ⟨i, j0, hi, rfl, hwr⟩ := hrel
      have HWO := Lib.hid hwr; clear hwr
      have hin : i < n := by omega
      go_wp2
      obtain ⟨wo, hwo⟩ : ∃ wo : World, wo = wr := ⟨_, rfl⟩
      subst hwo
      go_loopw [5, 6] (fun b k wr => ∃ k' j : Nat, k' ≤ n ∧ k = .int .i64 k' ∧ b = .bool (allB l i k') ∧ wr = w.drewN j) (fun _ k _ => n - (intOf k).toNat)
      case atStart => exact ⟨0, j0, by omega, rfl, rfl, HWO.out⟩
      case round =>
        obtain ⟨k, j, hk, rfl, hbb, hwr⟩ := hrel
        have HWR := Lib.hid hwr; clear hwr
        by_cases hlt : k < n
        · subst hbb
          have c1 : wr.cell? ⟨b, off + k, none⟩ = some (.float .f64 (l.getD k 0)) := by rw [HWR.out]; exact HC.out k hlt
          have c2 : wr.cell? ⟨b, off + i, none⟩ = some (.float .f64 (l.getD i 0)) := by rw [HWR.out]; exact HC.out i hin
          have hs : allB l i (k + 1) = if lsv (l.getD i 0) (l.getD k 0) then false else allB l i k := rfl
          have HX := Lib.hid (HW.out k); have HY := Lib.hid (HW.out i); have HS := Lib.hid hs; clear hs
          generalize l.getD k 0 = x at c1 HX HS
          generalize l.getD i 0 = y at c2 HY HS
          cases hv : lsv y x
          · have HV := Lib.hid hv; clear hv
            go_wp2
            go_quiet ((go_at_call 82; exact Calls.quiet_of_same ((rless_is HY.out HX.out HV.out _).mono fun e w' he => ⟨he.1, he.2.symm⟩)))
            go_wp2
            go_roundw
            case rel => exact ⟨k + 1, _, by omega, by go_num, by rw [HS.out, HV.out]; rfl, by rw [HWR.out, World.drewN_drewN]⟩
            case measure => simp [intOf]; omega
          · have HV := Lib.hid hv; clear hv
            go_wp2
            go_quiet ((go_at_call 82; exact Calls.quiet_of_same ((rless_is HY.out HX.out HV.out _).mono fun e w' he => ⟨he.1, he.2.symm⟩)))
            go_wp2
            go_roundw
            case rel => exact ⟨k + 1, _, by omega, by go_num, by rw [HS.out, HV.out]; rfl, by rw [HWR.out, World.drewN_drewN]⟩
            case measure => simp [intOf]; omega
        · obtain rfl : k = n := by omega
          by_cases hib : i = B
          · have ha : allB l i k = true := allB_yes l i k (by rw [hib]; exact HM.out)
            rw [ha] at hbb
            subst hib hbb
            go_wp2
            go_ret2
            exact ⟨rfl, j, HWR.out⟩
          · have ha : allB l i k = false := allB_no l i (j := B) hbn (HF.out i (by omega))
            rw [ha] at hbb
            subst hbb
            go_wp2
            go_roundw
            case rel => exact ⟨i + 1, j, by omega, by go_num, HWR.out⟩
            case measure => simp [intOf]; omega
end Go.Proofs.Ytclfambjkolckaa.Fl
