/- octets.Reader's methods, walked: a reader is a block of two cells. -/
import Derived.Test.YtlnnghbbjbimoaaTry
import Derived.WalkSmall
import Derived.RegionTactic
import Derived.BigRegion
namespace Go.Proofs.Ytlnnghbbjbimoaa.Reader
open Go Go.RowKit Go.Proofs.YtlnnghbbjbimoaaW.PrintWords Go.Proofs.YtlnnghbbjbimoaaW.PrintLast Go.Proofs.YtlnnghbbjbimoaaW.PrintMore
set_option linter.unusedVariables false
set_option linter.unusedSimpArgs false

/-- a reader at block g -/
def Rd (w : World) (g : Nat) (s : ByteArray) (at_ : Int) : Prop := w.heap[g]? = some (.cells #[.string s, .int .i64 at_] 141 (0, 0))
theorem Rd.lt {w : World} {g : Nat} {s : ByteArray} {a : Int} (h : Rd w g s a) : g < w.heap.size := blk_lt h
theorem Rd.c0 {w : World} {g : Nat} {s : ByteArray} {a : Int} (h : Rd w g s a) : w.cell? ⟨g, 0, none⟩ = some (.string s) := (blk_cell h 0).trans rfl
theorem Rd.c1 {w : World} {g : Nat} {s : ByteArray} {a : Int} (h : Rd w g s a) : w.cell? ⟨g, 1, none⟩ = some (.int .i64 a) := (blk_cell h 1).trans rfl
theorem Rd.f {w : World} {g : Nat} {s : ByteArray} {a : Int} (h : Rd w g s a) (i : Nat) : w.frozen? ⟨g, i, none⟩ = false := blk_frozen h i
theorem Rd.below {w w1 : World} {g : Nat} {s : ByteArray} {a : Int} (h : Rd w g s a) (hb : Below w.heap.size w w1) : Rd w1 g s a := blk_below h hb
theorem grown_set (w : World) (g i : Nat) (v : Value) : w.grownBy (w.setCell ⟨g, i, none⟩ v) (some g) :=
  ⟨rfl, rfl, rfl, by simp, fun k hk hne => Below.heap_setCell w _ _ k (fun e => hne (by rw [e]))⟩
theorem grown_below {w w1 : World} (h : Below w.heap.size w w1) (row : Option Nat) : w.grownBy w1 row := ⟨h.1, h.2, h.3, h.4, fun k hk _ => h.5 k hk⟩
theorem grown_drew {w w1 : World} {row : Option Nat} (h : w.grownBy w1 row) : w.grownBy w1.drew row := h.trans (grown_below (below_drew (Below.refl _ _)) row)
def up (er : Int) : List PanicEntry := [{ v := .iface 139 (.agg #[.int .i64 er]), recovered := false }]
set_option maxRecDepth 100000 in
theorem need_ok (v : Value) (er : Int) (w : World) : Calls Try.prog 103 #[v, .bool true, .int .i64 er] w fun e w' => e = .returned (.tuple #[]) ∧ w = w' := by
  go_enter Try.func103, Try.ntmps103
  go_wp2
  refine bodyPost_ret (results_none rfl _ _ _) rfl ?_
  exact ⟨rfl, rfl⟩
set_option maxRecDepth 100000 in
theorem need_no (v : Value) (er : Int) (w : World) (h0 : (er == 0) = false) : Calls Try.prog 103 #[v, .bool false, .int .i64 er] w fun e w' => e = .panicked (up er) ∧ Below w.heap.size w w' := by
  go_enter Try.func103, Try.ntmps103
  go_wp2
  simp [bodyPost, up]
  exact Below.refl _ _
set_option maxRecDepth 100000 in
theorem left_ok (g : Nat) (s : ByteArray) (a : Int) (w : World) (h : Rd w g s a) (ha : 0 ≤ a ∧ a ≤ s.size) (hs : s.size < 9223372036854775807) : Calls Try.prog 51 #[.pointer (some ⟨g, 0, none⟩)] w fun e w' => e = .returned (.int .i64 (s.size - a)) ∧ Below w.heap.size w w' := by
  have c0 := h.c0; have c1 := h.c1; clear h
  have e : wrap64 ((s.size : Int) - a) = s.size - a := by unfold wrap64; omega
  go_enter Try.func51, Try.ntmps51
  go_wp2
  go_region
  all_goals
    go_wp2
    go_ret
    exact ⟨by first | rfl | rw [e], by first | exact below_drew (Below.refl _ _) | exact Below.refl _ _⟩
set_option maxRecDepth 100000 in
set_option maxHeartbeats 2000000 in
theorem take_ok (g : Nat) (s : ByteArray) (a n : Int) (w : World) (h : Rd w g s a) (ha : 0 ≤ a ∧ a ≤ s.size) (hs : s.size < 4611686018427387904) (hn : 0 ≤ n ∧ n ≤ s.size - a) :
    Calls Try.prog 104 #[.pointer (some ⟨g, 0, none⟩), .int .i64 n] w fun e w' => e = .returned (.string (s.extract a.toNat (a + n).toNat)) ∧ Rd w' g s (a + n) ∧ w.grownBy w' (some g) := by
  have c0 := h.c0; have c1 := h.c1; have f1 := h.f 1
  have H := Lib.hid h; clear h
  have h0 : decide (n ≥ 0) = true := decide_eq_true hn.1
  have h1 : decide (n ≤ (s.size : Int) - a) = true := decide_eq_true hn.2
  go_enter Try.func104, Try.ntmps104
  go_wp2_with (first | (go_at_call 103; refine (need_ok _ _ _).mono ?_; rintro e w1 ⟨rfl, rfl⟩) | (go_at_call 51; refine (left_ok g s a _ H.out ha (by omega)).mono ?_; rintro e w1 ⟨rfl, hb⟩; have H1 := Lib.hid (Rd.below H.out hb); have k0 := H1.out.c0; have k1 := H1.out.c1; have kf := H1.out.f 1; have HB := Lib.hid hb; clear hb c0 c1 f1))
  have e1 : wrap64 (a + n - n) = a := by unfold wrap64; omega
  have e2 : (a + n) - n = a := by omega
  have ew : IntKind.i64.wrap a = a := by simp [IntKind.wrap, IntKind.bits, IntKind.signed]; omega
  have hA : 0 ≤ a + n ∧ a + n ≤ (s.size : Int) := by omega
  have hB : 0 ≤ a ∧ a ≤ ((a + n).toNat : Int) := by omega
  have hsl : ∀ w : World, Sem.run Try.prog (Instr.slice 9 (.string s) (some (.int .i64 a)) (some (.int .i64 (a + n))) none) w = .ok (.string (s.extract a.toNat (a + n).toNat)) w := by
    intro w
    simp [Instr.slice, Instr.sliceBounds, go_sem, Try.underlying9, hA, hB]
    intro hmx; omega
  have H2 : Rd (w1.setCell ⟨g, 1, none⟩ (.int .i64 (a + n))) g s (a + n) := blk_put H1.out 1 (.int .i64 (a + n)) rfl
  have G2 : w.grownBy (w1.setCell ⟨g, 1, none⟩ (.int .i64 (a + n))) (some g) := (grown_below HB.out (some g)).trans (grown_set w1 g 1 _)
  revert H2 G2
  generalize w1.setCell ⟨g, 1, none⟩ (.int .i64 (a + n)) = w2
  intro H2 G2
  have q0 := H2.c0; have q1 := H2.c1; clear k0 k1 kf
  have H2 := Lib.hid H2; have G2 := Lib.hid G2
  go_region
  all_goals
    go_wp2
    go_ret
    exact ⟨rfl, by first | exact H2.out | exact blk_drew H2.out, by first | exact G2.out | exact grown_drew G2.out⟩
set_option maxRecDepth 100000 in
set_option maxHeartbeats 2000000 in
theorem take_short (g : Nat) (s : ByteArray) (a n : Int) (w : World) (h : Rd w g s a) (ha : 0 ≤ a ∧ a ≤ s.size) (hs : s.size < 4611686018427387904) (hn : 0 ≤ n ∧ (s.size : Int) - a < n) :
    Calls Try.prog 104 #[.pointer (some ⟨g, 0, none⟩), .int .i64 n] w fun e w' => e = .panicked (up 5) ∧ Below w.heap.size w w' := by
  have H := Lib.hid h; clear h
  have h0 : decide (n ≥ 0) = true := decide_eq_true hn.1
  have h1 : decide (n ≤ (s.size : Int) - a) = false := decide_eq_false (by omega)
  go_enter Try.func104, Try.ntmps104
  go_wp2_with (first | (go_at_call 103; first | (with_reducible refine (need_no _ 5 _ rfl).mono ?_; rintro e w2 ⟨rfl, hb2⟩; have HB2 := Lib.hid hb2; clear hb2) | (with_reducible refine (need_ok _ _ _).mono ?_; rintro e w1 ⟨rfl, rfl⟩)) | (go_at_call 51; refine (left_ok g s a _ H.out ha (by omega)).mono ?_; rintro e w1 ⟨rfl, hb⟩; have HB := Lib.hid hb; clear hb))
  simp [bodyPost]
  exact HB.out.trans (HB2.out.mono HB.out.size)
end Go.Proofs.Ytlnnghbbjbimoaa.Reader
