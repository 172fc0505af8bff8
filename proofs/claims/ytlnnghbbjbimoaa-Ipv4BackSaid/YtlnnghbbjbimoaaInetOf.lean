/- inet.Of, walked by its reader's contracts. -/
import Derived.Test.YtlnnghbbjbimoaaReader2
import Derived.StillTailTactics
import Derived.Deep.RegionHeld3
namespace Go.Proofs.Ytlnnghbbjbimoaa.InetOf
open Go Go.RowKit Go.Proofs.Ytlnnghbbjbimoaa.Reader Go.Proofs.Ytlnnghbbjbimoaa.Tries Go.Proofs.YtlnnghbbjbimoaaW.PrintWords Go.Proofs.YtlnnghbbjbimoaaW.PrintLast Go.Proofs.YtlnnghbbjbimoaaW.PrintMore
set_option linter.unusedVariables false
set_option linter.unusedSimpArgs false
theorem end_at (g : Nat) (s : ByteArray) (a : Int) (w : World) (h : Rd w g s a) (e : a = s.size) (hs : s.size < 4611686018427387904) :
    Calls Try.prog 65 #[.pointer (some ⟨g, 0, none⟩)] w fun e w' => e = .returned (.tuple #[]) ∧ Below w.heap.size w w' := by subst e; exact end_ok g s w h hs
structure Env (w : World) (n0 g bv ba be : Nat) (s : ByteArray) (a v h l : Int) : Prop where
  rd : Rd w g s a
  hv : Blk w bv (.int .i64 v) 3
  ha : w.heap[ba]? = some (.cells #[.int .u64 h, .int .u64 l] 37 (0, 0))
  he : Blk w be (.int .i64 0) 47
  ne : bv ≠ g ∧ ba ≠ g ∧ be ≠ g ∧ bv ≠ ba ∧ be ≠ bv ∧ be ≠ ba
  lo : n0 ≤ g ∧ n0 ≤ bv ∧ n0 ≤ ba
theorem Env.grown {w w' : World} {n0 g bv ba be : Nat} {s : ByteArray} {a v h l a' : Int} (E : Env w n0 g bv ba be s a v h l) (hg : w.grownBy w' (some g)) (hr : Rd w' g s a') : Env w' n0 g bv ba be s a' v h l :=
  ⟨hr, E.hv.grown hg E.ne.1, blk_grown E.ha hg (by have := E.ne.2.1; simpa using this), E.he.grown hg E.ne.2.2.1, E.ne, E.lo⟩
theorem Env.below {w w' : World} {n0 g bv ba be : Nat} {s : ByteArray} {a v h l : Int} (E : Env w n0 g bv ba be s a v h l) (hb : Below w.heap.size w w') : Env w' n0 g bv ba be s a v h l :=
  ⟨blk_below E.rd hb, blk_below E.hv hb, blk_below E.ha hb, blk_below E.he hb, E.ne, E.lo⟩
theorem Env.setv {w : World} {n0 g bv ba be : Nat} {s : ByteArray} {a v h l v' : Int} (E : Env w n0 g bv ba be s a v h l) : Env (w.setCell ⟨bv, 0, none⟩ (.int .i64 v')) n0 g bv ba be s a v' h l :=
  ⟨E.rd.far (Ne.symm E.ne.1), E.hv.put, blk_far E.ha (Ne.symm E.ne.2.2.2.1) _, E.he.far E.ne.2.2.2.2.1, E.ne, E.lo⟩
theorem Env.seth {w : World} {n0 g bv ba be : Nat} {s : ByteArray} {a v h l h' : Int} (E : Env w n0 g bv ba be s a v h l) : Env (w.setCell ⟨ba, 0, none⟩ (.int .u64 h')) n0 g bv ba be s a v h' l :=
  ⟨E.rd.far (Ne.symm E.ne.2.1), E.hv.far E.ne.2.2.2.1, blk_put E.ha 0 _ rfl, E.he.far E.ne.2.2.2.2.2, E.ne, E.lo⟩
theorem Env.setl {w : World} {n0 g bv ba be : Nat} {s : ByteArray} {a v h l l' : Int} (E : Env w n0 g bv ba be s a v h l) : Env (w.setCell ⟨ba, 1, none⟩ (.int .u64 l')) n0 g bv ba be s a v h l' :=
  ⟨E.rd.far (Ne.symm E.ne.2.1), E.hv.far E.ne.2.2.2.1, blk_put E.ha 1 _ rfl, E.he.far E.ne.2.2.2.2.2, E.ne, E.lo⟩
theorem Env.drew {w : World} {n0 g bv ba be : Nat} {s : ByteArray} {a v h l : Int} (E : Env w n0 g bv ba be s a v h l) : Env w.drew n0 g bv ba be s a v h l :=
  ⟨E.rd, E.hv, E.ha, E.he, E.ne, E.lo⟩
theorem grown_lo {w0 w w' : World} {n0 g : Nat} (h : Below n0 w0 w) (hg : w.grownBy w' (some g)) (hl : n0 ≤ g) (hn : n0 ≤ w0.heap.size) : Below n0 w0 w' :=
  h.trans ⟨hg.1, hg.2, hg.3, hg.4, fun k hk => hg.5 k (by have := h.size; omega) (by intro e; injection e; omega)⟩
set_option maxRecDepth 100000 in
set_option maxHeartbeats 2000000 in
theorem clo4 (n0 g bv ba be : Nat) (s : ByteArray) (w : World) (E : Env w n0 g bv ba be s 0 0 0 0) (hn : n0 ≤ w.heap.size) (hs : s.size = 4) :
    Calls Try.prog 116 #[.pointer (some ⟨g, 0, none⟩), .pointer (some ⟨bv, 0, none⟩), .pointer (some ⟨ba, 0, none⟩)] w fun e w' => e = .returned (.tuple #[]) ∧ Env w' n0 g bv ba be s 4 4 0 (nm s 0 4) ∧ Below n0 w w' := by
  have hss : (s.size : Int) - 0 = 4 := by omega
  have hr := nm_range s 0 4
  have hw : IntKind.u64.wrap (nm s 0 4) = nm s 0 4 := by rw [IntKind.wrap_u64]; omega
  have E := Lib.hid E
  go_enter Try.func116, Try.ntmps116
  go_wp2_with (first | (go_at_call 51; refine (left_ok g s 0 _ E.out.rd (by omega) (by omega)).mono ?_; rintro e w1 ⟨rfl, hb⟩; have E1 := Lib.hid (E.out.below hb); have HB := Lib.hid ((Below.refl n0 w).trans (hb.mono hn)); clear hb) | (go_at_call 108; refine (u32_ok g s 0 _ E1.out.rd (by omega) (by omega)).mono ?_; rintro e w2 ⟨rfl, hr2, hg2⟩; have HB2 := Lib.hid (grown_lo HB.out hg2 E1.out.lo.1 hn); have HBL := Lib.hid (Nat.le_trans hn HB2.out.size); have E2 := Lib.hid (E1.out.grown hg2 hr2); have c2 := E2.out.hv.c; have z2 := E2.out.hv.f; have d0 : w2.cell? ⟨ba, 0, none⟩ = some (.int .u64 0) := (blk_cell E2.out.ha 0).trans rfl; have d1 : w2.cell? ⟨ba, 1, none⟩ = some (.int .u64 0) := (blk_cell E2.out.ha 1).trans rfl; have y0 := blk_frozen E2.out.ha 0; have y1 := blk_frozen E2.out.ha 1; have m1 := E2.out.ne.2.2.2.1; clear hr2 hg2) | (go_at_call 65; refine (end_at g s 4 _ (E2.out.setv.setl).rd (by omega) (by omega)).mono ?_; rintro e w9 ⟨rfl, hb⟩; have E9 := Lib.hid ((E2.out.setv.setl).below hb); have B9 := Lib.hid (((HB2.out.setCell (p := ⟨bv, 0, none⟩) E2.out.lo.2.1 _).setCell (p := ⟨ba, 1, none⟩) E2.out.lo.2.2 _).trans (hb.mono (by simp; have := HBL.out; omega))); clear hb))
  go_end0
  exact ⟨rfl, E9.out, B9.out⟩
set_option maxRecDepth 100000 in
set_option maxHeartbeats 2000000 in
theorem clo16 (n0 g bv ba be : Nat) (s : ByteArray) (w : World) (E : Env w n0 g bv ba be s 0 0 0 0) (hn : n0 ≤ w.heap.size) (hs : s.size = 16) :
    Calls Try.prog 116 #[.pointer (some ⟨g, 0, none⟩), .pointer (some ⟨bv, 0, none⟩), .pointer (some ⟨ba, 0, none⟩)] w fun e w' => e = .returned (.tuple #[]) ∧ Env w' n0 g bv ba be s 16 6 (nm s 0 8) (nm s 8 8) ∧ Below n0 w w' := by
  have hss : (s.size : Int) - 0 = 16 := by omega
  have E := Lib.hid E
  go_enter Try.func116, Try.ntmps116
  go_wp2_with (first | (go_at_call 51; refine (left_ok g s 0 _ E.out.rd (by omega) (by omega)).mono ?_; rintro e w1 ⟨rfl, hb⟩; have E1 := Lib.hid (E.out.below hb); have HB := Lib.hid ((Below.refl n0 w).trans (hb.mono hn)); clear hb) | (go_at_call 61; refine (u64_ok g s (0 + 8) _ E2.out.rd (by omega) (by omega)).mono ?_; rintro e w2 ⟨rfl, hr2, hg2⟩; have HB2 := Lib.hid (grown_lo HB2.out hg2 E2.out.lo.1 hn); have HBL := Lib.hid (Nat.le_trans hn HB2.out.size); have E2 := Lib.hid (E2.out.grown hg2 hr2); have c2 := E2.out.hv.c; have z2 := E2.out.hv.f; have d0 : w2.cell? ⟨ba, 0, none⟩ = some (.int .u64 0) := (blk_cell E2.out.ha 0).trans rfl; have d1 : w2.cell? ⟨ba, 1, none⟩ = some (.int .u64 0) := (blk_cell E2.out.ha 1).trans rfl; have y0 := blk_frozen E2.out.ha 0; have y1 := blk_frozen E2.out.ha 1; have m1 := E2.out.ne.2.2.2.1; clear hr2 hg2) | (go_at_call 61; refine (u64_ok g s 0 _ E1.out.rd (by omega) (by omega)).mono ?_; rintro e w2 ⟨rfl, hr2, hg2⟩; have HB2 := Lib.hid (grown_lo HB.out hg2 E1.out.lo.1 hn); have E2 := Lib.hid (E1.out.grown hg2 hr2); clear hr2 hg2) | (go_at_call 65; refine (end_at g s 16 _ (E2.out.setv.seth.setl).rd (by omega) (by omega)).mono ?_; rintro e w9 ⟨rfl, hb⟩; have E9 := Lib.hid ((E2.out.setv.seth.setl).below hb); have B9 := Lib.hid ((((HB2.out.setCell (p := ⟨bv, 0, none⟩) E2.out.lo.2.1 _).setCell (p := ⟨ba, 0, none⟩) E2.out.lo.2.2 _).setCell (p := ⟨ba, 1, none⟩) E2.out.lo.2.2 _).trans (hb.mono (by simp; have := HBL.out; omega))); clear hb))
  go_end0
  exact ⟨rfl, E9.out, B9.out⟩
set_option maxRecDepth 100000 in
set_option maxHeartbeats 2000000 in
theorem clo0 (n0 g bv ba be : Nat) (s : ByteArray) (w : World) (E : Env w n0 g bv ba be s 0 0 0 0) (hn : n0 ≤ w.heap.size) (hs : s.size = 0) :
    Calls Try.prog 116 #[.pointer (some ⟨g, 0, none⟩), .pointer (some ⟨bv, 0, none⟩), .pointer (some ⟨ba, 0, none⟩)] w fun e w' => e = .returned (.tuple #[]) ∧ Env w' n0 g bv ba be s 0 0 0 0 ∧ Below n0 w w' := by
  have hss : (s.size : Int) - 0 = 0 := by omega
  have E := Lib.hid E
  go_enter Try.func116, Try.ntmps116
  have HBL := Lib.hid hn
  go_wp2_with (first | (go_at_call 51; refine (left_ok g s 0 _ E.out.rd (by omega) (by omega)).mono ?_; rintro e w1 ⟨rfl, hb⟩; have E1 := Lib.hid (E.out.below hb); have HB := Lib.hid ((Below.refl n0 w).trans (hb.mono hn)); clear hb) | (go_at_call 65; refine (end_at g s 0 _ E1.out.rd (by omega) (by omega)).mono ?_; rintro e w9 ⟨rfl, hb⟩; have E9 := Lib.hid (E1.out.below hb); have B9 := Lib.hid (HB.out.trans (hb.mono (Nat.le_trans hn HB.out.size))); clear hb))
  go_end0
  exact ⟨rfl, E9.out, B9.out⟩
set_option maxRecDepth 100000 in
set_option maxHeartbeats 2000000 in
theorem cloX (n0 g bv ba be : Nat) (s : ByteArray) (w : World) (E : Env w n0 g bv ba be s 0 0 0 0) (hn : n0 ≤ w.heap.size) (h0 : 0 < s.size) (h4 : s.size ≠ 4) (h16 : s.size ≠ 16) (hs : s.size < 4611686018427387904) :
    Calls Try.prog 116 #[.pointer (some ⟨g, 0, none⟩), .pointer (some ⟨bv, 0, none⟩), .pointer (some ⟨ba, 0, none⟩)] w fun e w' => e = .panicked (up 4) ∧ (∃ a v h l : Int, Env w' n0 g bv ba be s a v h l) ∧ Below n0 w w' := by
  have k4 : ((s.size : Int) == 4) = false := by simp; omega
  have k16 : ((s.size : Int) == 16) = false := by simp; omega
  have E := Lib.hid E
  go_enter Try.func116, Try.ntmps116
  go_wp2_with (first | (go_at_call 51; refine (left_ok g s 0 _ E.out.rd (by omega) (by omega)).mono ?_; rintro e w1 ⟨rfl, hb⟩; have E1 := Lib.hid (E.out.below hb); have HB := Lib.hid ((Below.refl n0 w).trans (hb.mono hn)); clear hb) | (go_at_call 65; refine (end_long g s 0 _ E1.out.rd (by omega) hs).mono ?_; rintro e w9 ⟨rfl, hb⟩; have E9 := Lib.hid (E1.out.below hb); have B9 := Lib.hid (HB.out.trans (hb.mono (Nat.le_trans hn HB.out.size))); clear hb))
  simp [bodyPost]
  exact ⟨⟨_, _, _, _, E9.out⟩, B9.out⟩
end Go.Proofs.Ytlnnghbbjbimoaa.InetOf
