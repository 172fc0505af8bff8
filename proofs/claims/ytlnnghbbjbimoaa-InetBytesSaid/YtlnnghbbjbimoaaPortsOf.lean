/- ports.Of, walked by its reader's contracts. -/
import Derived.Test.YtlnnghbbjbimoaaReader2
import Derived.StillTailTactics
import Derived.Deep.RegionHeld3
import Derived.Deep.QuietTactic
import Derived.BigQuiet
namespace Go.Proofs.Ytlnnghbbjbimoaa.PortsOf
open Go Go.RowKit Go.Proofs.Ytlnnghbbjbimoaa.Reader Go.Proofs.Ytlnnghbbjbimoaa.Tries Go.Proofs.YtlnnghbbjbimoaaW.PrintWords Go.Proofs.YtlnnghbbjbimoaaW.PrintLast Go.Proofs.YtlnnghbbjbimoaaW.PrintMore
set_option linter.unusedVariables false
set_option linter.unusedSimpArgs false

def lst (p : Int) : Int := if p = 6 then 20 else if p = 17 then 8 else 0
set_option maxRecDepth 100000 in
theorem least_ok (p : Int) (w : World) : Calls Try.prog 44 #[.int .i64 p] w fun e w' => e = .returned (.int .i64 (lst p)) ∧ w' = w := by
  unfold lst
  by_cases h1 : p = 6
  · subst h1
    go_enter Try.func44, Try.ntmps44
    go_wp2
    go_ret
    exact ⟨rfl, rfl⟩
  · by_cases h2 : p = 17
    · subst h2
      go_enter Try.func44, Try.ntmps44
      go_wp2
      go_ret
      exact ⟨rfl, rfl⟩
    · have k1 : (p == 6) = false := by simpa using h1
      have k2 : (p == 17) = false := by simpa using h2
      go_enter Try.func44, Try.ntmps44
      go_wp2
      go_ret
      exact ⟨rfl, rfl⟩

/-- the reader and the variables of ports.Of at its closure -/
structure Env (w : World) (n0 g bs bp b2 b3 b4 be : Nat) (s : ByteArray) (p a x y : Int) : Prop where
  rd : Rd w g s a
  h0 : Blk w bs (.string s) 9
  h1 : Blk w bp (.int .i64 p) 3
  h2 : Blk w b2 (.func (Fn.func 91) #[] #[]) 135
  h3 : Blk w b3 (.int .i64 x) 3
  h4 : Blk w b4 (.int .i64 y) 3
  he : Blk w be (.int .i64 0) 47
  ne : bs ≠ g ∧ bp ≠ g ∧ b2 ≠ g ∧ b3 ≠ g ∧ b4 ≠ g ∧ be ≠ g ∧ bs ≠ b3 ∧ bp ≠ b3 ∧ b2 ≠ b3 ∧ b4 ≠ b3 ∧ be ≠ b3 ∧ bs ≠ b4 ∧ bp ≠ b4 ∧ b2 ≠ b4 ∧ be ≠ b4
  lo : n0 ≤ g ∧ n0 ≤ b3 ∧ n0 ≤ b4
theorem Env.grown {w w' : World} {n0 g bs bp b2 b3 b4 be : Nat} {s : ByteArray} {p a x y a' : Int} (E : Env w n0 g bs bp b2 b3 b4 be s p a x y) (hg : w.grownBy w' (some g)) (hr : Rd w' g s a') : Env w' n0 g bs bp b2 b3 b4 be s p a' x y :=
  ⟨hr, E.h0.grown hg E.ne.1, E.h1.grown hg E.ne.2.1, E.h2.grown hg E.ne.2.2.1, E.h3.grown hg E.ne.2.2.2.1, E.h4.grown hg E.ne.2.2.2.2.1, E.he.grown hg E.ne.2.2.2.2.2.1, E.ne, E.lo⟩
theorem Env.below {w w' : World} {n0 g bs bp b2 b3 b4 be : Nat} {s : ByteArray} {p a x y : Int} (E : Env w n0 g bs bp b2 b3 b4 be s p a x y) (h : Below w.heap.size w w') : Env w' n0 g bs bp b2 b3 b4 be s p a x y :=
  ⟨blk_below E.rd h, blk_below E.h0 h, blk_below E.h1 h, blk_below E.h2 h, blk_below E.h3 h, blk_below E.h4 h, blk_below E.he h, E.ne, E.lo⟩
theorem Env.drew {w : World} {n0 g bs bp b2 b3 b4 be : Nat} {s : ByteArray} {p a x y : Int} (E : Env w n0 g bs bp b2 b3 b4 be s p a x y) : Env w.drew n0 g bs bp b2 b3 b4 be s p a x y :=
  ⟨E.rd, E.h0, E.h1, E.h2, E.h3, E.h4, E.he, E.ne, E.lo⟩
theorem Env.set {w : World} {n0 g bs bp b2 b3 b4 be : Nat} {s : ByteArray} {p a x y x' y' : Int} (E : Env w n0 g bs bp b2 b3 b4 be s p a x y) : Env ((w.setCell ⟨b3, 0, none⟩ (.int .i64 x')).setCell ⟨b4, 0, none⟩ (.int .i64 y')) n0 g bs bp b2 b3 b4 be s p a x' y' := by
  obtain ⟨n1, n2, n3, n4, n5, n6, m1, m2, m3, m4, m5, q1, q2, q3, q4⟩ := E.ne
  exact ⟨(E.rd.far (Ne.symm n4)).far (Ne.symm n5), (E.h0.far m1).far q1, (E.h1.far m2).far q2, (E.h2.far m3).far q3, E.h3.put.far (Ne.symm m4), (E.h4.far m4).put, (E.he.far m5).far q4, E.ne, E.lo⟩
theorem grown_lo {w0 w w' : World} {n0 g : Nat} (h : Below n0 w0 w) (hg : w.grownBy w' (some g)) (hl : n0 ≤ g) (hn : n0 ≤ w0.heap.size) : Below n0 w0 w' :=
  h.trans ⟨hg.1, hg.2, hg.3, hg.4, fun k hk => hg.5 k (by have := h.size; omega) (by intro e; injection e; omega)⟩
set_option maxRecDepth 100000 in
set_option maxHeartbeats 2000000 in
theorem clo_short (n0 g bs bp b2 b3 b4 be : Nat) (s : ByteArray) (p : Int) (w : World) (E : Env w n0 g bs bp b2 b3 b4 be s p 0 0 0) (hn : n0 ≤ w.heap.size) (hs : s.size < 4611686018427387904) (hl : (s.size : Int) < lst p) :
    Calls Try.prog 102 #[.pointer (some ⟨g, 0, none⟩), .pointer (some ⟨bs, 0, none⟩), .pointer (some ⟨bp, 0, none⟩), .pointer (some ⟨b2, 0, none⟩), .pointer (some ⟨b3, 0, none⟩), .pointer (some ⟨b4, 0, none⟩)] w fun e w' => e = .panicked (up 5) ∧ (∃ a x y : Int, Env w' n0 g bs bp b2 b3 b4 be s p a x y) ∧ Below n0 w w' := by
  have k0 : decide (lst p ≤ (s.size : Int)) = false := decide_eq_false (by omega)
  have c0 := E.h0.c; have c1 := E.h1.c
  have E := Lib.hid E
  go_enter Try.func102, Try.ntmps102
  go_wp2
  go_still_tail 6, (by kernel_rfl)
  still_call (least_ok p _)
  repeat still_step
  refine wpStill_nil ?_
  change wpList _ _ _ _ _ w.drew
  go_wp2_with (go_at_call 103; with_reducible refine (need_no _ 5 _ rfl).mono ?_; rintro e w9 ⟨rfl, hb9⟩; have HB9 := Lib.hid hb9; clear hb9)
  simp [bodyPost]
  exact ⟨⟨_, _, _, E.out.drew.below HB9.out⟩, (Below.drew (Below.refl n0 w)).trans (HB9.out.mono hn)⟩
set_option maxRecDepth 100000 in
set_option maxHeartbeats 2000000 in
theorem clo_udp (n0 g bs bp b2 b3 b4 be : Nat) (s : ByteArray) (w : World) (E : Env w n0 g bs bp b2 b3 b4 be s 17 0 0 0) (hn : n0 ≤ w.heap.size) (hs : s.size < 4611686018427387904) (hl : 8 ≤ s.size) (h8 : 8 ≤ nm s 4 2 ∧ nm s 4 2 ≤ s.size) :
    Calls Try.prog 102 #[.pointer (some ⟨g, 0, none⟩), .pointer (some ⟨bs, 0, none⟩), .pointer (some ⟨bp, 0, none⟩), .pointer (some ⟨b2, 0, none⟩), .pointer (some ⟨b3, 0, none⟩), .pointer (some ⟨b4, 0, none⟩)] w fun e w' => e = .returned (.tuple #[]) ∧ Env w' n0 g bs bp b2 b3 b4 be s 17 6 (nm s 0 2) (nm s 2 2) ∧ Below n0 w w' := by
  have k0 : decide (lst 17 ≤ (s.size : Int)) = true := decide_eq_true (by show (8 : Int) ≤ _; omega)
  have c0 := E.h0.c; have c1 := E.h1.c
  have E := Lib.hid E
  go_enter Try.func102, Try.ntmps102
  go_wp2
  go_still_tail 6, (by kernel_rfl)
  still_call (least_ok 17 _)
  repeat still_step
  refine wpStill_nil ?_
  change wpList _ _ _ _ _ w.drew
  go_wp2_with (go_at_call 103; with_reducible refine (need_ok _ _ _).mono ?_; rintro e _ ⟨rfl, rfl⟩)
  have c2 : w.drew.cell? ⟨b2, 0, none⟩ = some (.func (Fn.func 91) #[] #[]) := E.out.h2.c
  have n1 := E.out.ne.2.2.2.2.2.2.2.2.1; have n2 := E.out.ne.2.2.2.2.2.2.2.2.2.1; have n3 := E.out.ne.2.2.2.2.2.2.2.2.2.2.2.2.2.1
  clear c0 c1
  go_region_held3 (fun w' => w'.cell? ⟨b2, 0, none⟩ = some (.func (Fn.func 91) #[] #[])) (first | assumption | simp [*, go_sem]) (first | (go_at_call 91; refine (u16_ok g s (0 + 2) _ E1.out.rd hs (by omega)).mono ?_; rintro e w2 ⟨rfl, hr2, hg2⟩; have HB := Lib.hid (grown_lo HB.out hg2 E1.out.lo.1 hn); have E2 := Lib.hid (E1.out.grown hg2 hr2); have c2 := E2.out.h2.c; have c3 := E2.out.h3.c; have z3 := E2.out.h3.f; have c4 := E2.out.h4.c; have z4 := E2.out.h4.f; clear hr2 hg2) | (go_at_call 91; refine (u16_ok g s 0 _ (by exact E.out.rd) hs (by omega)).mono ?_; rintro e w1 ⟨rfl, hr1, hg1⟩; have hg1 : w.grownBy w1 (some g) := ⟨hg1.1, hg1.2, hg1.3, hg1.4, hg1.5⟩; have HB := Lib.hid (grown_lo (Below.refl n0 w) hg1 E.out.lo.1 hn); have E1 := Lib.hid (E.out.grown hg1 hr1); have e2 := E1.out.h2.c; clear hr1 hg1))
  have E3 := Lib.hid (E2.out.set (x' := nm s 0 2) (y' := nm s (0 + 2) 2))
  have B3 := Lib.hid ((HB.out.setCell (p := ⟨b3, 0, none⟩) E.out.lo.2.1 (.int .i64 (nm s 0 2))).setCell (p := ⟨b4, 0, none⟩) E.out.lo.2.2 (.int .i64 (nm s (0 + 2) 2)))
  revert E3 B3
  rw [show (0 : Int) + 2 = 2 from rfl]
  generalize (w2.setCell ⟨b3, 0, none⟩ (.int .i64 (nm s 0 2))).setCell ⟨b4, 0, none⟩ (.int .i64 (nm s 2 2)) = w3
  intro E3 B3
  rename_i hHeld
  clear hHeld c2 c3 z3 c4 z4 e2 HB E1 E2
  have d1 := E3.out.h1.c; have d2 := E3.out.h2.c; have d0 := E3.out.h0.c
  go_wp2_with (first | (go_at_call 91; refine (u16_ok g s (2 + 2) _ E3.out.rd hs (by omega)).mono ?_; rintro e w4 ⟨rfl, hr4, hg4⟩; have HB4 := Lib.hid (grown_lo B3.out hg4 E3.out.lo.1 hn); have E4 := Lib.hid (E3.out.grown hg4 hr4); have k2 := E4.out.h2.c; have k0 := E4.out.h0.c; clear hr4 hg4) | (go_at_call 103; with_reducible refine (need_ok _ _ _).mono ?_; rintro e _ ⟨rfl, rfl⟩))
  first | go_end0 | refine bodyPost_ret (results_none rfl _ _ _) rfl ?_
  exact ⟨rfl, E4.out, HB4.out⟩
set_option maxRecDepth 100000 in
set_option maxHeartbeats 2000000 in
theorem clo_udp_a (n0 g bs bp b2 b3 b4 be : Nat) (s : ByteArray) (w : World) (E : Env w n0 g bs bp b2 b3 b4 be s 17 0 0 0) (hn : n0 ≤ w.heap.size) (hs : s.size < 4611686018427387904) (hl : 8 ≤ s.size) (h8 : nm s 4 2 < 8) :
    Calls Try.prog 102 #[.pointer (some ⟨g, 0, none⟩), .pointer (some ⟨bs, 0, none⟩), .pointer (some ⟨bp, 0, none⟩), .pointer (some ⟨b2, 0, none⟩), .pointer (some ⟨b3, 0, none⟩), .pointer (some ⟨b4, 0, none⟩)] w fun e w' => e = .panicked (up 6) ∧ (∃ a x y : Int, Env w' n0 g bs bp b2 b3 b4 be s 17 a x y) ∧ Below n0 w w' := by
  have k0 : decide (lst 17 ≤ (s.size : Int)) = true := decide_eq_true (by show (8 : Int) ≤ _; omega)
  have f1 : decide (8 ≤ nm s 4 2) = false := decide_eq_false (by omega)
  have c0 := E.h0.c; have c1 := E.h1.c
  have E := Lib.hid E
  go_enter Try.func102, Try.ntmps102
  go_wp2
  go_still_tail 6, (by kernel_rfl)
  still_call (least_ok 17 _)
  repeat still_step
  refine wpStill_nil ?_
  change wpList _ _ _ _ _ w.drew
  go_wp2_with (go_at_call 103; with_reducible refine (need_ok _ _ _).mono ?_; rintro e _ ⟨rfl, rfl⟩)
  have c2 : w.drew.cell? ⟨b2, 0, none⟩ = some (.func (Fn.func 91) #[] #[]) := E.out.h2.c
  have n1 := E.out.ne.2.2.2.2.2.2.2.2.1; have n2 := E.out.ne.2.2.2.2.2.2.2.2.2.1; have n3 := E.out.ne.2.2.2.2.2.2.2.2.2.2.2.2.2.1
  clear c0 c1
  go_region_held3 (fun w' => w'.cell? ⟨b2, 0, none⟩ = some (.func (Fn.func 91) #[] #[])) (first | assumption | simp [*, go_sem]) (first | (go_at_call 91; refine (u16_ok g s (0 + 2) _ E1.out.rd hs (by omega)).mono ?_; rintro e w2 ⟨rfl, hr2, hg2⟩; have HB := Lib.hid (grown_lo HB.out hg2 E1.out.lo.1 hn); have E2 := Lib.hid (E1.out.grown hg2 hr2); have c2 := E2.out.h2.c; have c3 := E2.out.h3.c; have z3 := E2.out.h3.f; have c4 := E2.out.h4.c; have z4 := E2.out.h4.f; clear hr2 hg2) | (go_at_call 91; refine (u16_ok g s 0 _ (by exact E.out.rd) hs (by omega)).mono ?_; rintro e w1 ⟨rfl, hr1, hg1⟩; have hg1 : w.grownBy w1 (some g) := ⟨hg1.1, hg1.2, hg1.3, hg1.4, hg1.5⟩; have HB := Lib.hid (grown_lo (Below.refl n0 w) hg1 E.out.lo.1 hn); have E1 := Lib.hid (E.out.grown hg1 hr1); have e2 := E1.out.h2.c; clear hr1 hg1))
  have E3 := Lib.hid (E2.out.set (x' := nm s 0 2) (y' := nm s (0 + 2) 2))
  have B3 := Lib.hid ((HB.out.setCell (p := ⟨b3, 0, none⟩) E.out.lo.2.1 (.int .i64 (nm s 0 2))).setCell (p := ⟨b4, 0, none⟩) E.out.lo.2.2 (.int .i64 (nm s (0 + 2) 2)))
  revert E3 B3
  rw [show (0 : Int) + 2 = 2 from rfl]
  generalize (w2.setCell ⟨b3, 0, none⟩ (.int .i64 (nm s 0 2))).setCell ⟨b4, 0, none⟩ (.int .i64 (nm s 2 2)) = w3
  intro E3 B3
  rename_i hHeld
  clear hHeld c2 c3 z3 c4 z4 e2 HB E1 E2
  have d1 := E3.out.h1.c; have d2 := E3.out.h2.c; have d0 := E3.out.h0.c
  go_wp2_with (first | (go_at_call 91; refine (u16_ok g s (2 + 2) _ E3.out.rd hs (by omega)).mono ?_; rintro e w4 ⟨rfl, hr4, hg4⟩; have HB4 := Lib.hid (grown_lo B3.out hg4 E3.out.lo.1 hn); have E4 := Lib.hid (E3.out.grown hg4 hr4); have k2 := E4.out.h2.c; have k0 := E4.out.h0.c; clear hr4 hg4) | (go_at_call 103; with_reducible refine (need_no _ 6 _ rfl).mono ?_; rintro e w9 ⟨rfl, hb9⟩; have HB9 := Lib.hid hb9; clear hb9))
  simp [bodyPost]
  exact ⟨⟨_, _, _, E4.out.below HB9.out⟩, HB4.out.trans (HB9.out.mono (by have := HB4.out.size; omega))⟩
set_option maxRecDepth 100000 in
set_option maxHeartbeats 2000000 in
theorem clo_udp_b (n0 g bs bp b2 b3 b4 be : Nat) (s : ByteArray) (w : World) (E : Env w n0 g bs bp b2 b3 b4 be s 17 0 0 0) (hn : n0 ≤ w.heap.size) (hs : s.size < 4611686018427387904) (hl : 8 ≤ s.size) (h8 : 8 ≤ nm s 4 2 ∧ (s.size : Int) < nm s 4 2) :
    Calls Try.prog 102 #[.pointer (some ⟨g, 0, none⟩), .pointer (some ⟨bs, 0, none⟩), .pointer (some ⟨bp, 0, none⟩), .pointer (some ⟨b2, 0, none⟩), .pointer (some ⟨b3, 0, none⟩), .pointer (some ⟨b4, 0, none⟩)] w fun e w' => e = .panicked (up 6) ∧ (∃ a x y : Int, Env w' n0 g bs bp b2 b3 b4 be s 17 a x y) ∧ Below n0 w w' := by
  have k0 : decide (lst 17 ≤ (s.size : Int)) = true := decide_eq_true (by show (8 : Int) ≤ _; omega)
  have f1 : decide (8 ≤ nm s 4 2) = true := decide_eq_true (by omega)
  have f2 : decide (nm s 4 2 ≤ (s.size : Int)) = false := decide_eq_false (by omega)
  have c0 := E.h0.c; have c1 := E.h1.c
  have E := Lib.hid E
  go_enter Try.func102, Try.ntmps102
  go_wp2
  go_still_tail 6, (by kernel_rfl)
  still_call (least_ok 17 _)
  repeat still_step
  refine wpStill_nil ?_
  change wpList _ _ _ _ _ w.drew
  go_wp2_with (go_at_call 103; with_reducible refine (need_ok _ _ _).mono ?_; rintro e _ ⟨rfl, rfl⟩)
  have c2 : w.drew.cell? ⟨b2, 0, none⟩ = some (.func (Fn.func 91) #[] #[]) := E.out.h2.c
  have n1 := E.out.ne.2.2.2.2.2.2.2.2.1; have n2 := E.out.ne.2.2.2.2.2.2.2.2.2.1; have n3 := E.out.ne.2.2.2.2.2.2.2.2.2.2.2.2.2.1
  clear c0 c1
  go_region_held3 (fun w' => w'.cell? ⟨b2, 0, none⟩ = some (.func (Fn.func 91) #[] #[])) (first | assumption | simp [*, go_sem]) (first | (go_at_call 91; refine (u16_ok g s (0 + 2) _ E1.out.rd hs (by omega)).mono ?_; rintro e w2 ⟨rfl, hr2, hg2⟩; have HB := Lib.hid (grown_lo HB.out hg2 E1.out.lo.1 hn); have E2 := Lib.hid (E1.out.grown hg2 hr2); have c2 := E2.out.h2.c; have c3 := E2.out.h3.c; have z3 := E2.out.h3.f; have c4 := E2.out.h4.c; have z4 := E2.out.h4.f; clear hr2 hg2) | (go_at_call 91; refine (u16_ok g s 0 _ (by exact E.out.rd) hs (by omega)).mono ?_; rintro e w1 ⟨rfl, hr1, hg1⟩; have hg1 : w.grownBy w1 (some g) := ⟨hg1.1, hg1.2, hg1.3, hg1.4, hg1.5⟩; have HB := Lib.hid (grown_lo (Below.refl n0 w) hg1 E.out.lo.1 hn); have E1 := Lib.hid (E.out.grown hg1 hr1); have e2 := E1.out.h2.c; clear hr1 hg1))
  have E3 := Lib.hid (E2.out.set (x' := nm s 0 2) (y' := nm s (0 + 2) 2))
  have B3 := Lib.hid ((HB.out.setCell (p := ⟨b3, 0, none⟩) E.out.lo.2.1 (.int .i64 (nm s 0 2))).setCell (p := ⟨b4, 0, none⟩) E.out.lo.2.2 (.int .i64 (nm s (0 + 2) 2)))
  revert E3 B3
  rw [show (0 : Int) + 2 = 2 from rfl]
  generalize (w2.setCell ⟨b3, 0, none⟩ (.int .i64 (nm s 0 2))).setCell ⟨b4, 0, none⟩ (.int .i64 (nm s 2 2)) = w3
  intro E3 B3
  rename_i hHeld
  clear hHeld c2 c3 z3 c4 z4 e2 HB E1 E2
  have d1 := E3.out.h1.c; have d2 := E3.out.h2.c; have d0 := E3.out.h0.c
  go_wp2_with (first | (go_at_call 91; refine (u16_ok g s (2 + 2) _ E3.out.rd hs (by omega)).mono ?_; rintro e w4 ⟨rfl, hr4, hg4⟩; have HB4 := Lib.hid (grown_lo B3.out hg4 E3.out.lo.1 hn); have E4 := Lib.hid (E3.out.grown hg4 hr4); have k2 := E4.out.h2.c; have k0 := E4.out.h0.c; clear hr4 hg4) | (go_at_call 103; with_reducible refine (need_no _ 6 _ rfl).mono ?_; rintro e w9 ⟨rfl, hb9⟩; have HB9 := Lib.hid hb9; clear hb9))
  simp [bodyPost]
  exact ⟨⟨_, _, _, E4.out.below HB9.out⟩, HB4.out.trans (HB9.out.mono (by have := HB4.out.size; omega))⟩
set_option maxRecDepth 100000 in
set_option maxHeartbeats 2000000 in
theorem clo_tcp (n0 g bs bp b2 b3 b4 be : Nat) (s : ByteArray) (w : World) (E : Env w n0 g bs bp b2 b3 b4 be s 6 0 0 0) (hn : n0 ≤ w.heap.size) (hs : s.size < 4611686018427387904) (hl : 20 ≤ s.size) (h8 : 20 ≤ nm s 12 1 / 16 * 4 ∧ nm s 12 1 / 16 * 4 ≤ s.size) :
    Calls Try.prog 102 #[.pointer (some ⟨g, 0, none⟩), .pointer (some ⟨bs, 0, none⟩), .pointer (some ⟨bp, 0, none⟩), .pointer (some ⟨b2, 0, none⟩), .pointer (some ⟨b3, 0, none⟩), .pointer (some ⟨b4, 0, none⟩)] w fun e w' => e = .returned (.tuple #[]) ∧ Env w' n0 g bs bp b2 b3 b4 be s 6 13 (nm s 0 2) (nm s 2 2) ∧ Below n0 w w' := by
  have k0 : decide (lst 6 ≤ (s.size : Int)) = true := decide_eq_true (by show (20 : Int) ≤ _; omega)
  have hv := nm_range s 12 1
  have f1 : decide (20 ≤ nm s 12 1 / 16 * 4) = true := decide_eq_true (by omega)
  have f2 : decide (nm s 12 1 / 16 * 4 ≤ (s.size : Int)) = true := decide_eq_true (by omega)
  have c0 := E.h0.c; have c1 := E.h1.c
  have E := Lib.hid E
  go_enter Try.func102, Try.ntmps102
  go_wp2
  go_still_tail 6, (by kernel_rfl)
  still_call (least_ok 6 _)
  repeat still_step
  refine wpStill_nil ?_
  change wpList _ _ _ _ _ w.drew
  go_wp2_with (go_at_call 103; with_reducible refine (need_ok _ _ _).mono ?_; rintro e _ ⟨rfl, rfl⟩)
  have c2 : w.drew.cell? ⟨b2, 0, none⟩ = some (.func (Fn.func 91) #[] #[]) := E.out.h2.c
  have n1 := E.out.ne.2.2.2.2.2.2.2.2.1; have n2 := E.out.ne.2.2.2.2.2.2.2.2.2.1; have n3 := E.out.ne.2.2.2.2.2.2.2.2.2.2.2.2.2.1
  clear c0 c1
  go_region_held3 (fun w' => w'.cell? ⟨b2, 0, none⟩ = some (.func (Fn.func 91) #[] #[])) (first | assumption | simp [*, go_sem]) (first | (go_at_call 91; refine (u16_ok g s (0 + 2) _ E1.out.rd hs (by omega)).mono ?_; rintro e w2 ⟨rfl, hr2, hg2⟩; have HB := Lib.hid (grown_lo HB.out hg2 E1.out.lo.1 hn); have E2 := Lib.hid (E1.out.grown hg2 hr2); have c2 := E2.out.h2.c; have c3 := E2.out.h3.c; have z3 := E2.out.h3.f; have c4 := E2.out.h4.c; have z4 := E2.out.h4.f; clear hr2 hg2) | (go_at_call 91; refine (u16_ok g s 0 _ (by exact E.out.rd) hs (by omega)).mono ?_; rintro e w1 ⟨rfl, hr1, hg1⟩; have hg1 : w.grownBy w1 (some g) := ⟨hg1.1, hg1.2, hg1.3, hg1.4, hg1.5⟩; have HB := Lib.hid (grown_lo (Below.refl n0 w) hg1 E.out.lo.1 hn); have E1 := Lib.hid (E.out.grown hg1 hr1); have e2 := E1.out.h2.c; clear hr1 hg1))
  have E3 := Lib.hid (E2.out.set (x' := nm s 0 2) (y' := nm s (0 + 2) 2))
  have B3 := Lib.hid ((HB.out.setCell (p := ⟨b3, 0, none⟩) E.out.lo.2.1 (.int .i64 (nm s 0 2))).setCell (p := ⟨b4, 0, none⟩) E.out.lo.2.2 (.int .i64 (nm s (0 + 2) 2)))
  revert E3 B3
  rw [show (0 : Int) + 2 = 2 from rfl]
  generalize (w2.setCell ⟨b3, 0, none⟩ (.int .i64 (nm s 0 2))).setCell ⟨b4, 0, none⟩ (.int .i64 (nm s 2 2)) = w3
  intro E3 B3
  rename_i hHeld
  clear hHeld c2 c3 z3 c4 z4 e2 HB E1 E2
  have d1 := E3.out.h1.c; have d2 := E3.out.h2.c; have d0 := E3.out.h0.c
  go_wp2_with (first | (go_at_call 104; refine (take_ok g s (2 + 2) 8 _ E3.out.rd (by omega) hs (by omega)).mono ?_; rintro e w4 ⟨rfl, hr4, hg4⟩; have HB4 := Lib.hid (grown_lo B3.out hg4 E3.out.lo.1 hn); have E4 := Lib.hid (E3.out.grown hg4 hr4); have k2 := E4.out.h2.c; have k0 := E4.out.h0.c; clear hr4 hg4) | (go_at_call 105; refine (u8_ok g s (2 + 2 + 8) _ E4.out.rd hs (by omega)).mono ?_; rintro e w5 ⟨rfl, hr5, hg5⟩; have HB5 := Lib.hid (grown_lo HB4.out hg5 E4.out.lo.1 hn); have E5 := Lib.hid (E4.out.grown hg5 hr5); have q0 := E5.out.h0.c; clear hr5 hg5) | (go_at_call 103; with_reducible refine (need_ok _ _ _).mono ?_; rintro e _ ⟨rfl, rfl⟩))
  first | go_end0 | refine bodyPost_ret (results_none rfl _ _ _) rfl ?_
  exact ⟨rfl, E5.out, HB5.out⟩
set_option maxRecDepth 100000 in
set_option maxHeartbeats 2000000 in
theorem clo_tcp_a (n0 g bs bp b2 b3 b4 be : Nat) (s : ByteArray) (w : World) (E : Env w n0 g bs bp b2 b3 b4 be s 6 0 0 0) (hn : n0 ≤ w.heap.size) (hs : s.size < 4611686018427387904) (hl : 20 ≤ s.size) (h8 : nm s 12 1 / 16 * 4 < 20) :
    Calls Try.prog 102 #[.pointer (some ⟨g, 0, none⟩), .pointer (some ⟨bs, 0, none⟩), .pointer (some ⟨bp, 0, none⟩), .pointer (some ⟨b2, 0, none⟩), .pointer (some ⟨b3, 0, none⟩), .pointer (some ⟨b4, 0, none⟩)] w fun e w' => e = .panicked (up 23) ∧ (∃ a x y : Int, Env w' n0 g bs bp b2 b3 b4 be s 6 a x y) ∧ Below n0 w w' := by
  have k0 : decide (lst 6 ≤ (s.size : Int)) = true := decide_eq_true (by show (20 : Int) ≤ _; omega)
  have hv := nm_range s 12 1
  have f1 : decide (20 ≤ nm s 12 1 / 16 * 4) = false := decide_eq_false (by omega)
  have c0 := E.h0.c; have c1 := E.h1.c
  have E := Lib.hid E
  go_enter Try.func102, Try.ntmps102
  go_wp2
  go_still_tail 6, (by kernel_rfl)
  still_call (least_ok 6 _)
  repeat still_step
  refine wpStill_nil ?_
  change wpList _ _ _ _ _ w.drew
  go_wp2_with (go_at_call 103; with_reducible refine (need_ok _ _ _).mono ?_; rintro e _ ⟨rfl, rfl⟩)
  have c2 : w.drew.cell? ⟨b2, 0, none⟩ = some (.func (Fn.func 91) #[] #[]) := E.out.h2.c
  have n1 := E.out.ne.2.2.2.2.2.2.2.2.1; have n2 := E.out.ne.2.2.2.2.2.2.2.2.2.1; have n3 := E.out.ne.2.2.2.2.2.2.2.2.2.2.2.2.2.1
  clear c0 c1
  go_region_held3 (fun w' => w'.cell? ⟨b2, 0, none⟩ = some (.func (Fn.func 91) #[] #[])) (first | assumption | simp [*, go_sem]) (first | (go_at_call 91; refine (u16_ok g s (0 + 2) _ E1.out.rd hs (by omega)).mono ?_; rintro e w2 ⟨rfl, hr2, hg2⟩; have HB := Lib.hid (grown_lo HB.out hg2 E1.out.lo.1 hn); have E2 := Lib.hid (E1.out.grown hg2 hr2); have c2 := E2.out.h2.c; have c3 := E2.out.h3.c; have z3 := E2.out.h3.f; have c4 := E2.out.h4.c; have z4 := E2.out.h4.f; clear hr2 hg2) | (go_at_call 91; refine (u16_ok g s 0 _ (by exact E.out.rd) hs (by omega)).mono ?_; rintro e w1 ⟨rfl, hr1, hg1⟩; have hg1 : w.grownBy w1 (some g) := ⟨hg1.1, hg1.2, hg1.3, hg1.4, hg1.5⟩; have HB := Lib.hid (grown_lo (Below.refl n0 w) hg1 E.out.lo.1 hn); have E1 := Lib.hid (E.out.grown hg1 hr1); have e2 := E1.out.h2.c; clear hr1 hg1))
  have E3 := Lib.hid (E2.out.set (x' := nm s 0 2) (y' := nm s (0 + 2) 2))
  have B3 := Lib.hid ((HB.out.setCell (p := ⟨b3, 0, none⟩) E.out.lo.2.1 (.int .i64 (nm s 0 2))).setCell (p := ⟨b4, 0, none⟩) E.out.lo.2.2 (.int .i64 (nm s (0 + 2) 2)))
  revert E3 B3
  rw [show (0 : Int) + 2 = 2 from rfl]
  generalize (w2.setCell ⟨b3, 0, none⟩ (.int .i64 (nm s 0 2))).setCell ⟨b4, 0, none⟩ (.int .i64 (nm s 2 2)) = w3
  intro E3 B3
  rename_i hHeld
  clear hHeld c2 c3 z3 c4 z4 e2 HB E1 E2
  have d1 := E3.out.h1.c; have d2 := E3.out.h2.c; have d0 := E3.out.h0.c
  go_wp2_with (first | (go_at_call 104; refine (take_ok g s (2 + 2) 8 _ E3.out.rd (by omega) hs (by omega)).mono ?_; rintro e w4 ⟨rfl, hr4, hg4⟩; have HB4 := Lib.hid (grown_lo B3.out hg4 E3.out.lo.1 hn); have E4 := Lib.hid (E3.out.grown hg4 hr4); have k2 := E4.out.h2.c; have k0 := E4.out.h0.c; clear hr4 hg4) | (go_at_call 105; refine (u8_ok g s (2 + 2 + 8) _ E4.out.rd hs (by omega)).mono ?_; rintro e w5 ⟨rfl, hr5, hg5⟩; have HB5 := Lib.hid (grown_lo HB4.out hg5 E4.out.lo.1 hn); have E5 := Lib.hid (E4.out.grown hg5 hr5); have q0 := E5.out.h0.c; clear hr5 hg5) | (go_at_call 103; with_reducible refine (need_no _ 23 _ rfl).mono ?_; rintro e w9 ⟨rfl, hb9⟩; have HB9 := Lib.hid hb9; clear hb9))
  simp [bodyPost]
  exact ⟨⟨_, _, _, E5.out.below HB9.out⟩, HB5.out.trans (HB9.out.mono (by have := HB5.out.size; omega))⟩
set_option maxRecDepth 100000 in
set_option maxHeartbeats 2000000 in
theorem clo_tcp_b (n0 g bs bp b2 b3 b4 be : Nat) (s : ByteArray) (w : World) (E : Env w n0 g bs bp b2 b3 b4 be s 6 0 0 0) (hn : n0 ≤ w.heap.size) (hs : s.size < 4611686018427387904) (hl : 20 ≤ s.size) (h8 : 20 ≤ nm s 12 1 / 16 * 4 ∧ (s.size : Int) < nm s 12 1 / 16 * 4) :
    Calls Try.prog 102 #[.pointer (some ⟨g, 0, none⟩), .pointer (some ⟨bs, 0, none⟩), .pointer (some ⟨bp, 0, none⟩), .pointer (some ⟨b2, 0, none⟩), .pointer (some ⟨b3, 0, none⟩), .pointer (some ⟨b4, 0, none⟩)] w fun e w' => e = .panicked (up 23) ∧ (∃ a x y : Int, Env w' n0 g bs bp b2 b3 b4 be s 6 a x y) ∧ Below n0 w w' := by
  have k0 : decide (lst 6 ≤ (s.size : Int)) = true := decide_eq_true (by show (20 : Int) ≤ _; omega)
  have hv := nm_range s 12 1
  have f1 : decide (20 ≤ nm s 12 1 / 16 * 4) = true := decide_eq_true (by omega)
  have f2 : decide (nm s 12 1 / 16 * 4 ≤ (s.size : Int)) = false := decide_eq_false (by omega)
  have c0 := E.h0.c; have c1 := E.h1.c
  have E := Lib.hid E
  go_enter Try.func102, Try.ntmps102
  go_wp2
  go_still_tail 6, (by kernel_rfl)
  still_call (least_ok 6 _)
  repeat still_step
  refine wpStill_nil ?_
  change wpList _ _ _ _ _ w.drew
  go_wp2_with (go_at_call 103; with_reducible refine (need_ok _ _ _).mono ?_; rintro e _ ⟨rfl, rfl⟩)
  have c2 : w.drew.cell? ⟨b2, 0, none⟩ = some (.func (Fn.func 91) #[] #[]) := E.out.h2.c
  have n1 := E.out.ne.2.2.2.2.2.2.2.2.1; have n2 := E.out.ne.2.2.2.2.2.2.2.2.2.1; have n3 := E.out.ne.2.2.2.2.2.2.2.2.2.2.2.2.2.1
  clear c0 c1
  go_region_held3 (fun w' => w'.cell? ⟨b2, 0, none⟩ = some (.func (Fn.func 91) #[] #[])) (first | assumption | simp [*, go_sem]) (first | (go_at_call 91; refine (u16_ok g s (0 + 2) _ E1.out.rd hs (by omega)).mono ?_; rintro e w2 ⟨rfl, hr2, hg2⟩; have HB := Lib.hid (grown_lo HB.out hg2 E1.out.lo.1 hn); have E2 := Lib.hid (E1.out.grown hg2 hr2); have c2 := E2.out.h2.c; have c3 := E2.out.h3.c; have z3 := E2.out.h3.f; have c4 := E2.out.h4.c; have z4 := E2.out.h4.f; clear hr2 hg2) | (go_at_call 91; refine (u16_ok g s 0 _ (by exact E.out.rd) hs (by omega)).mono ?_; rintro e w1 ⟨rfl, hr1, hg1⟩; have hg1 : w.grownBy w1 (some g) := ⟨hg1.1, hg1.2, hg1.3, hg1.4, hg1.5⟩; have HB := Lib.hid (grown_lo (Below.refl n0 w) hg1 E.out.lo.1 hn); have E1 := Lib.hid (E.out.grown hg1 hr1); have e2 := E1.out.h2.c; clear hr1 hg1))
  have E3 := Lib.hid (E2.out.set (x' := nm s 0 2) (y' := nm s (0 + 2) 2))
  have B3 := Lib.hid ((HB.out.setCell (p := ⟨b3, 0, none⟩) E.out.lo.2.1 (.int .i64 (nm s 0 2))).setCell (p := ⟨b4, 0, none⟩) E.out.lo.2.2 (.int .i64 (nm s (0 + 2) 2)))
  revert E3 B3
  rw [show (0 : Int) + 2 = 2 from rfl]
  generalize (w2.setCell ⟨b3, 0, none⟩ (.int .i64 (nm s 0 2))).setCell ⟨b4, 0, none⟩ (.int .i64 (nm s 2 2)) = w3
  intro E3 B3
  rename_i hHeld
  clear hHeld c2 c3 z3 c4 z4 e2 HB E1 E2
  have d1 := E3.out.h1.c; have d2 := E3.out.h2.c; have d0 := E3.out.h0.c
  go_wp2_with (first | (go_at_call 104; refine (take_ok g s (2 + 2) 8 _ E3.out.rd (by omega) hs (by omega)).mono ?_; rintro e w4 ⟨rfl, hr4, hg4⟩; have HB4 := Lib.hid (grown_lo B3.out hg4 E3.out.lo.1 hn); have E4 := Lib.hid (E3.out.grown hg4 hr4); have k2 := E4.out.h2.c; have k0 := E4.out.h0.c; clear hr4 hg4) | (go_at_call 105; refine (u8_ok g s (2 + 2 + 8) _ E4.out.rd hs (by omega)).mono ?_; rintro e w5 ⟨rfl, hr5, hg5⟩; have HB5 := Lib.hid (grown_lo HB4.out hg5 E4.out.lo.1 hn); have E5 := Lib.hid (E4.out.grown hg5 hr5); have q0 := E5.out.h0.c; clear hr5 hg5) | (go_at_call 103; with_reducible refine (need_no _ 23 _ rfl).mono ?_; rintro e w9 ⟨rfl, hb9⟩; have HB9 := Lib.hid hb9; clear hb9))
  simp [bodyPost]
  exact ⟨⟨_, _, _, E5.out.below HB9.out⟩, HB5.out.trans (HB9.out.mono (by have := HB5.out.size; omega))⟩
end Go.Proofs.Ytlnnghbbjbimoaa.PortsOf
