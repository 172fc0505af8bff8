/- Sums of floats, by contract. -/
import Derived.Test.YtclfambjkolckaaShareU
import Derived.LoopTactic
import Derived.Deep.Draws
import Derived.Below
namespace Go.Proofs.Ytclfambjkolckaa.Fl
open Go Go.RowKit Ieee Go.Proofs.Ytclfambjkolckaa.ShareM
set_option linter.unusedVariables false
set_option linter.unusedSimpArgs false
set_option maxRecDepth 20000
/-- a slice of floats, as it lies -/
def FlRow (w : World) (a : Option Addr) (n : Nat) (l : List Nat) : Prop := l.length = n ∧ (n ≠ 0 → ∃ b off, a = some ⟨b, off, none⟩ ∧ ∀ k, k < n → w.cell? ⟨b, off + k, none⟩ = some (.float .f64 (l.getD k 0)))
/-- the sum, from left to right; none: no number -/
def tot1 (o : Option Nat) (x : Nat) : Option Nat := o.bind fun a => floatBits .add .f64 a x
def tot (l : List Nat) : Option Nat := l.foldl tot1 (some 0)
def TotIs : Option Nat → Nat → Prop
  | some r, z => z = r ∧ rg r ≤ 9218868437227405312 ∧ r < 18446744073709551616
  | none, z => 9218868437227405312 < rg z ∧ z < 18446744073709551616
def nanOf (a x : Nat) (W : World) : Nat := (Question.nanBits .f64 a x).cut (W.tape W.drawn (.nanBits .f64 a x))
theorem nanOf_nan (a x : Nat) (W : World) : 9218868437227405312 < rg (nanOf a x W) := by
  unfold nanOf Question.cut rg
  simp only
  generalize W.tape W.drawn _ = t
  have hp : t % 2 < 2 := Nat.mod_lt _ (by omega)
  have hq : t / 2 % (2 ^ 52 - 1) < 2 ^ 52 - 1 := Nat.mod_lt _ (by omega)
  generalize t % 2 = p at hp
  generalize t / 2 % (2 ^ 52 - 1) = q at hq
  obtain rfl | rfl : p = 0 ∨ p = 1 := by omega
  · omega
  · omega
theorem nanOf_lt (a x : Nat) (W : World) : nanOf a x W < 18446744073709551616 := by
  unfold nanOf Question.cut
  simp only
  generalize W.tape W.drawn _ = t
  have hp : t % 2 < 2 := Nat.mod_lt _ (by omega)
  have hq : t / 2 % (2 ^ 52 - 1) < 2 ^ 52 - 1 := Nat.mod_lt _ (by omega)
  generalize t % 2 = p at hp
  generalize t / 2 % (2 ^ 52 - 1) = q at hq
  omega
theorem run_add_nan {a x : Nat} (T : TypeId) (h : floatBits .add .f64 a x = none) (W : World) : Sem.run Try.prog (binOp .add T (.float .f64 a) (.float .f64 x)) W = .ok (.float .f64 (nanOf a x W)) W.drew := by
  have h' : FloatKind.f64.format.add a x = none := h
  simp only [binOp, Go.Op.floatArith, h']
  rfl
theorem add_num {a x r : Nat} (h : floatBits .add .f64 a x = some r) : rg r ≤ 9218868437227405312 ∧ r < 18446744073709551616 := by
  have h' : double.add a x = some r := h
  unfold Format.add at h'
  cases hd : (double.read a).sum (double.read x) with
  | none => rw [hd] at h'; simp at h'
  | some d =>
    rw [hd] at h'
    simp only [Option.map_some, Option.some.injEq] at h'
    have wl : ∀ s r', r' ≤ 9218868437227405312 → rg (double.word s r') ≤ 9218868437227405312 ∧ double.word s r' < 18446744073709551616 := fun s r' hr' => ⟨by rw [word_rg s (by omega)]; exact hr', by unfold Format.word; rw [sign_]; cases s <;> simp <;> omega⟩
    cases d with
    | nan s f => 
      exfalso
      revert hd
      cases double.read a <;> cases double.read x <;> simp only [Datum.sum] <;> intro hd <;> first | (cases hd; done) | skip
      split at hd <;> cases hd
    | infinity s =>
      rw [← h']
      show rg (double.word s double.infRung) ≤ _ ∧ double.word s double.infRung < _
      rw [inf_]; exact wl s _ (by omega)
    | number s m p =>
      rw [← h']
      show rg (double.nearest s m p) ≤ _ ∧ double.nearest s m p < _
      unfold Format.nearest
      split
      · exact wl s 0 (by omega)
      · simp only [inf_]
        exact wl s _ (by omega)
theorem nan_add {a x : Nat} (h : 9218868437227405312 < rg a) : floatBits .add .f64 a x = none := by
  show double.add a x = none
  unfold Format.add
  rw [read_nan h]; cases double.read x <;> rfl
theorem tot_snoc (l : List Nat) (x : Nat) : tot (l ++ [x]) = tot1 (tot l) x := by unfold tot; rw [List.foldl_append]; rfl
theorem take_snoc' (l : List Nat) (k : Nat) (h : k < l.length) : l.take (k + 1) = l.take k ++ [l.getD k 0] := by
  rw [List.take_succ_eq_append_getElem h, List.getD_eq_getElem?_getD, List.getElem?_eq_getElem h]; rfl
/-- one more -/
theorem tot_more {l : List Nat} {k z : Nat} (h : k < l.length) (ht : TotIs (tot (l.take k)) z) :
    (∃ r, floatBits .add .f64 z (l.getD k 0) = some r ∧ TotIs (tot (l.take (k + 1))) r) ∨ (floatBits .add .f64 z (l.getD k 0) = none ∧ ∀ z', 9218868437227405312 < rg z' → z' < 18446744073709551616 → TotIs (tot (l.take (k + 1))) z') := by
  rw [take_snoc' l k h, tot_snoc]
  cases hc : tot (l.take k) with
  | none =>
    rw [hc] at ht
    right
    exact ⟨nan_add ht.1, fun z' hz hl => ⟨hz, hl⟩⟩
  | some r =>
    rw [hc] at ht
    obtain ⟨rfl, hr, _⟩ := ht
    cases ha : floatBits .add .f64 z (l.getD k 0) with
    | some q => left; exact ⟨q, rfl, by show TotIs (floatBits .add .f64 z (l.getD k 0)) q; rw [ha]; exact ⟨rfl, add_num ha⟩⟩
    | none => right; exact ⟨rfl, fun z' hz hl => by show TotIs (floatBits .add .f64 z (l.getD k 0)) z'; rw [ha]; exact ⟨hz, hl⟩⟩
def SumPost (l : List Nat) (w : World) (e : Ending) (w' : World) : Prop := ∃ z j, e = .returned (.float .f64 z) ∧ TotIs (tot l) z ∧ w' = w.drewN j
theorem float_eq {a b : Nat} (h : a = b) : Value.float .f64 a = Value.float .f64 b := by rw [h]
set_option maxHeartbeats 1000000 in
theorem total_calls (a : Option Addr) (n cap : Nat) (l : List Nat) (w : World) (h : FlRow w a n l) (hn : n ≤ 9223372036854775807) :
    Calls Try.prog 73 #[.slice a n cap] w (SumPost l w) := by
  by_cases h0 : n = 0
  · subst h0
    obtain rfl : l = [] := List.eq_nil_of_length_eq_zero h.1
    go_enter Try.func73, Try.ntmps73
    go_wp2
    go_loop [3, 8] (fun s i => s = .float .f64 0 ∧ i = .int .i64 0) (fun _ i => 0)
    case atStart => exact ⟨rfl, rfl⟩
    case round =>
      obtain ⟨rfl, rfl⟩ := hrel
      go_wp2
      go_ret
      exact ⟨0, 0, rfl, ⟨rfl, by decide, by decide⟩, rfl⟩
  · obtain ⟨hl, h2⟩ := h
    obtain ⟨b, off, rfl, hc⟩ := h2 h0
    have HL := Lib.hid hl; have HC := Lib.hid hc; clear h2 hc
    go_enter Try.func73, Try.ntmps73
    go_wp2
    go_loopw [3, 8] (fun s i wr => ∃ k z j : Nat, k ≤ n ∧ i = .int .i64 k ∧ s = .float .f64 z ∧ TotIs (tot (l.take k)) z ∧ wr = w.drewN j) (fun _ i _ => n - (intOf i).toNat)
    case atStart => exact ⟨0, 0, 0, by omega, rfl, rfl, ⟨rfl, by decide, by decide⟩, rfl⟩
    case round =>
      obtain ⟨k, z, j, hk, rfl, rfl, ht, rfl⟩ := hrel
      by_cases hlt : k < n
      · have hcell := HC.out k hlt
        have HT : Hid ((∃ r, floatBits .add .f64 z (l.getD k 0) = some r ∧ TotIs (tot (l.take (k + 1))) r) ∨ (floatBits .add .f64 z (l.getD k 0) = none ∧ ∀ z', 9218868437227405312 < rg z' → z' < 18446744073709551616 → TotIs (tot (l.take (k + 1))) z')) := Lib.hid (tot_more (by have := HL.out; omega) ht)
        clear ht
        generalize l.getD k 0 = x at hcell HT
        rcases HT.out with ⟨r, hr, ht⟩ | ⟨hr, ht⟩
        · have hrun := fun W => run_float_arith (P := Try.prog) W .add 79 .f64 z x r hr
          have HTT := Lib.hid ht; clear HT ht hr
          go_wp2
          go_roundw
          case rel => exact ⟨k + 1, r, j, by omega, by go_num, rfl, HTT.out, rfl⟩
          case measure => simp [intOf]; omega
        · have hrun := fun W => run_add_nan 79 hr W
          have HTT := Lib.hid (ht _ (nanOf_nan z x (w.drewN j)) (nanOf_lt z x (w.drewN j))); clear HT ht hr
          go_wp2
          go_roundw
          case rel => exact ⟨k + 1, _, _, by omega, by go_num, rfl, HTT.out, rfl⟩
          case measure => simp [intOf]; omega
      · obtain rfl : k = n := by omega
        have HTT := Lib.hid ht; clear ht
        go_wp2
        go_ret
        exact ⟨z, j, rfl, by have := HTT.out; rw [← HL.out, List.take_length] at this; exact this, rfl⟩
end Go.Proofs.Ytclfambjkolckaa.Fl
