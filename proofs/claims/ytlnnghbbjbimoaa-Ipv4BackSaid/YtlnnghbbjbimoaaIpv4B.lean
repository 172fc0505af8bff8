/- The law Ipv4Back, walked by its ways. -/
import Derived.Test.YtlnnghbbjbimoaaIpv4M
import Derived.Test.YtlnnghbbjbimoaaIpv4P
import Derived.Test.YtlnnghbbjbimoaaWEqStruct
import Derived.Laws.IdiomStrings
import Derived.Laws.BytesArg
import Derived.StillTailTactics
import Derived.Deep.RegionHeld3
import Derived.Test.YtlnnghbbjbimoaaPVx2
namespace Go.Proofs.Ytlnnghbbjbimoaa.Ipv4B
open Go Go.RowKit Go.Proofs.Ytlnnghbbjbimoaa.PV Go.Proofs.YtlnnghbbjbimoaaW.PrintWords Go.Proofs.YtlnnghbbjbimoaaW.PrintLast Go.Proofs.YtlnnghbbjbimoaaW.PrintMore
set_option linter.unusedVariables false
set_option linter.unusedSimpArgs false
theorem eqA37 (d : Nat) (w : World) (x0 y0 : Int) (x1 y1 : Int) :
    (Op.equalIn (d + 2) 37 (.agg #[.int .u64 x0, .int .u64 x1]) (.agg #[.int .u64 y0, .int .u64 y1])).run Try.prog w = .ok (x0 == y0 && (x1 == y1)) w := by
  refine eqA_of Try.underlying37 (by kernel_rfl) ?_
  refine eqf_cons (by rfl) (by go_simp; rfl) (by go_simp; rfl) (by go_simp) ?_
  exact eqf_last (by rfl) (by go_simp; rfl) (by go_simp; rfl) (by go_simp)
theorem eqA112 (d : Nat) (w : World) (x0 y0 : Int) (x1 y1 : Int) (x2 y2 : Int) (x3 y3 : Int) (x4 y4 : Int) (x5 y5 : Int) (x6 y6 : Int) (x7 y7 : Int) (x8 y8 : Bool) :
    (Op.equalIn (d + 3) 112 (.agg #[.int .u64 x0, .int .u64 x1, .int .u64 x2, .int .u64 x3, .int .i64 x4, .int .i64 x5, .int .i64 x6, .int .i64 x7, .bool x8]) (.agg #[.int .u64 y0, .int .u64 y1, .int .u64 y2, .int .u64 y3, .int .i64 y4, .int .i64 y5, .int .i64 y6, .int .i64 y7, .bool y8])).run Try.prog w = .ok ((x0 == y0 && (x1 == y1)) && ((x2 == y2 && (x3 == y3)) && (x4 == y4 && (x5 == y5 && (x6 == y6 && (x7 == y7 && (x8 == y8))))))) w := by
  refine eqA_of Try.underlying112 (by kernel_rfl) ?_
  refine eqf_cons (by rfl) (by go_simp) (by go_simp) (eqA37 (d + 0) w _ _ _ _) ?_
  refine eqf_cons (by rfl) (by go_simp) (by go_simp) (eqA37 (d + 0) w _ _ _ _) ?_
  refine eqf_cons (by rfl) (by go_simp; rfl) (by go_simp; rfl) (by go_simp) ?_
  refine eqf_cons (by rfl) (by go_simp; rfl) (by go_simp; rfl) (by go_simp) ?_
  refine eqf_cons (by rfl) (by go_simp; rfl) (by go_simp; rfl) (by go_simp) ?_
  refine eqf_cons (by rfl) (by go_simp; rfl) (by go_simp; rfl) (by go_simp) ?_
  exact eqf_last (by rfl) (by go_simp; rfl) (by go_simp; rfl) (by go_simp)
attribute [local go_sem high] eqA112
/-- the world behind []byte(s), and the new slice's capacity -/
def cvc (w : World) (s : ByteArray) : Nat := grownCap w s.size 0 5
def cvw (w : World) (s : ByteArray) : World := w.drew.alloc (.cells (bytesRow s (cvc w s)) 5 ((bytesRow s (cvc w s)).size, (bytesRow s (cvc w s)).size + 1))
theorem conv_run (w : World) (s : ByteArray) : (convert 9 22 (.string s)).run Try.prog w = .ok (.slice (some ⟨w.heap.size, 0, none⟩) s.size (cvc w s)) (cvw w s) :=
  run_bytes_of_string (P := Try.prog) w 9 22 5 s Try.underlying9 Try.underlying22 Try.underlying5
theorem cvw_below (w : World) (s : ByteArray) : Below w.heap.size w (cvw w s) := (below_drew (Below.refl _ _)).alloc (Nat.le_refl _) _
theorem cvw_cell (w : World) (s : ByteArray) (j : Nat) (hj : j < s.size) : (cvw w s).cell? ⟨w.heap.size, j, none⟩ = some (.int .u8 (bt s j)) := by
  have h := World.cell?_alloc_mark w.drew (bytesRow s (cvc w s)) 5 ((bytesRow s (cvc w s)).size, (bytesRow s (cvc w s)).size + 1) j
  have h2 := bytesRow_at s (cvc w s) j hj
  unfold cvw
  rw [show w.heap.size = w.drew.heap.size from rfl, h, h2]
  unfold bt
  rw [dif_pos (by omega)]
  simp [ByteArray.getElem_eq_getElem_data]
theorem cvw_frozen (w : World) (s : ByteArray) (j : Nat) (hj : j < s.size) : (cvw w s).frozen? ⟨w.heap.size, j, none⟩ = false := by
  have h := World.frozen?_alloc_mark w.drew (bytesRow s (cvc w s)) 5 (bytesRow s (cvc w s)).size ((bytesRow s (cvc w s)).size + 1) j
  unfold cvw
  rw [show w.heap.size = w.drew.heap.size from rfl, h]
  have h2 := bytesRow_at s (cvc w s) j hj
  have h3 := (Array.getElem?_eq_some_iff.1 h2).1
  simp
  omega
/-- a block's bytes -/
def Cells (w : World) (B : Nat) (xs : List Int) : Prop := ∀ j, j < xs.length → w.cell? ⟨B, j, none⟩ = some (.int .u8 (xs.getD j 0)) ∧ w.frozen? ⟨B, j, none⟩ = false
theorem Cells.set {w : World} {B : Nat} {xs : List Int} (h : Cells w B xs) (i : Nat) (hi : i < xs.length) (y : Int) : Cells (w.setCell ⟨B, i, none⟩ (.int .u8 y)) B (xs.set i y) := by
  intro j hj
  rw [List.length_set] at hj
  obtain ⟨h1, h2⟩ := h j hj
  obtain ⟨g1, g2⟩ := h i hi
  refine ⟨?_, by rw [World.frozen?_setCell]; exact h2⟩
  by_cases e : j = i
  · subst e
    rw [List.getD_eq_getElem?_getD, List.getElem?_set_self hi]
    exact World.cell?_setCell_same _ _ _ g1
  · rw [List.getD_eq_getElem?_getD, List.getElem?_set_ne (Ne.symm e), ← List.getD_eq_getElem?_getD, World.cell?_setCell_other _ _ _ _ (by intro h; injection h with _ h _; exact e h.symm)]
    exact h1
theorem Cells.drew {w : World} {B : Nat} {xs : List Int} (h : Cells w B xs) : Cells w.drew B xs := h
def W4s (w3 : World) (s : ByteArray) (w : World) (p q : Int) : Prop := (cvw (w3.alloc (.cells #[.int .u64 0, .int .u64 0, .int .u64 0, .int .u64 0, .int .i64 0, .int .i64 0, .int .i64 0, .int .i64 0, .bool false] 112 (0, 0))) s).cell? ⟨w.heap.size + 1, 0, none⟩ = some (.int .u8 p) ∧ (cvw (w3.alloc (.cells #[.int .u64 0, .int .u64 0, .int .u64 0, .int .u64 0, .int .i64 0, .int .i64 0, .int .i64 0, .int .i64 0, .bool false] 112 (0, 0))) s).cell? ⟨w.heap.size + 1, 1, none⟩ = some (.int .u8 q) ∧ Cells (cvw (w3.alloc (.cells #[.int .u64 0, .int .u64 0, .int .u64 0, .int .u64 0, .int .i64 0, .int .i64 0, .int .i64 0, .int .i64 0, .bool false] 112 (0, 0))) s) (w3.heap.size + 1) (Ipv4P.bnums s) ∧ Below w3.heap.size w3 (cvw (w3.alloc (.cells #[.int .u64 0, .int .u64 0, .int .u64 0, .int .u64 0, .int .i64 0, .int .i64 0, .int .i64 0, .int .i64 0, .bool false] 112 (0, 0))) s)
theorem w4s (w3 : World) (s : ByteArray) (w : World) (p q : Int) (h : w3.heap[w.heap.size + 1]? = some (.cells #[.int .u8 p, .int .u8 q] 109 (0, 0))) : W4s w3 s w p q := by
  have hb : Below w3.heap.size w3 (cvw (w3.alloc (.cells #[.int .u64 0, .int .u64 0, .int .u64 0, .int .u64 0, .int .i64 0, .int .i64 0, .int .i64 0, .int .i64 0, .bool false] 112 (0, 0))) s) := ((Below.refl w3.heap.size w3).alloc (Nat.le_refl _) _).trans ((cvw_below (w3.alloc (.cells #[.int .u64 0, .int .u64 0, .int .u64 0, .int .u64 0, .int .i64 0, .int .i64 0, .int .i64 0, .int .i64 0, .bool false] 112 (0, 0))) s).mono (by simp))
  have hk := blk_below h hb
  refine ⟨(blk_cell hk 0).trans rfl, (blk_cell hk 1).trans rfl, fun j hj => ?_, hb⟩
  have hj' := hj
  rw [Ipv4P.bn_length] at hj
  have hat : (Ipv4P.bnums s).getD j 0 = bt s j := by rw [List.getD_eq_getElem?_getD, List.getElem?_eq_getElem hj', Ipv4P.bn_at]; rfl
  rw [hat]
  have h1 := cvw_cell (w3.alloc (.cells #[.int .u64 0, .int .u64 0, .int .u64 0, .int .u64 0, .int .i64 0, .int .i64 0, .int .i64 0, .int .i64 0, .bool false] 112 (0, 0))) s j hj
  have h2 := cvw_frozen (w3.alloc (.cells #[.int .u64 0, .int .u64 0, .int .u64 0, .int .u64 0, .int .i64 0, .int .i64 0, .int .i64 0, .int .i64 0, .bool false] 112 (0, 0))) s j hj
  rw [show (w3.alloc (.cells #[.int .u64 0, .int .u64 0, .int .u64 0, .int .u64 0, .int .i64 0, .int .i64 0, .int .i64 0, .int .i64 0, .bool false] 112 (0, 0))).heap.size = w3.heap.size + 1 from by simp] at h1 h2
  exact ⟨h1, h2⟩
set_option maxRecDepth 100000 in
set_option maxHeartbeats 1000000 in
theorem out0 (t : ByteArray) (a0 a1 a2 a3 a4 a5 a6 a7 p q : Int) (b : Bool) (w : World) (hl : ∀ w, Calls Try.prog 84 #[] w fun e w' => e = .returned (.bool true) ∧ Below w.heap.size w w') (h0 : decide (200 < (t.size : Int)) = true) :
    Calls Try.prog 17 #[.agg #[.int .u64 a0, .int .u64 a1, .int .u64 a2, .int .u64 a3, .int .i64 a4, .int .i64 a5, .int .i64 a6, .int .i64 a7, .bool b], .string t, .agg #[.int .u8 p, .int .u8 q]] w fun e w' => e = .returned (.bool true) ∧ Below w.heap.size w w' := by
  have HL := Lib.hid hl; clear hl
  go_enter Try.func17, Try.ntmps17
  go_wp2_with (go_at_call 84; refine (HL.out _).mono ?_; rintro e w6 ⟨rfl, hb⟩; have B6 := Lib.hid hb; clear hb)
  go_ret
  have C1 := Lib.hid (((Below.refl w.heap.size w).alloc (Nat.le_refl _) (.cells #[.int .u64 a0, .int .u64 a1, .int .u64 a2, .int .u64 a3, .int .i64 a4, .int .i64 a5, .int .i64 a6, .int .i64 a7, .bool b] 112 (0, 0))).alloc (by simp) (.cells #[.int .u8 p, .int .u8 q] 109 (0, 0)))
  exact ⟨rfl, C1.out.trans (B6.out.mono (by simp; omega))⟩
set_option maxRecDepth 100000 in
set_option maxHeartbeats 1000000 in
theorem out1 (t : ByteArray) (a0 a1 a2 a3 a4 a5 a6 a7 p q : Int) (b : Bool) (w : World) (hl : ∀ w, Calls Try.prog 84 #[] w fun e w' => e = .returned (.bool true) ∧ Below w.heap.size w w') (h0 : decide (200 < (t.size : Int)) = false) (h1 : (a0 != 0) = true) :
    Calls Try.prog 17 #[.agg #[.int .u64 a0, .int .u64 a1, .int .u64 a2, .int .u64 a3, .int .i64 a4, .int .i64 a5, .int .i64 a6, .int .i64 a7, .bool b], .string t, .agg #[.int .u8 p, .int .u8 q]] w fun e w' => e = .returned (.bool true) ∧ Below w.heap.size w w' := by
  have HL := Lib.hid hl; clear hl
  go_enter Try.func17, Try.ntmps17
  go_wp2_with (go_at_call 84; refine (HL.out _).mono ?_; rintro e w6 ⟨rfl, hb⟩; have B6 := Lib.hid hb; clear hb)
  go_ret
  have C1 := Lib.hid (((Below.refl w.heap.size w).alloc (Nat.le_refl _) (.cells #[.int .u64 a0, .int .u64 a1, .int .u64 a2, .int .u64 a3, .int .i64 a4, .int .i64 a5, .int .i64 a6, .int .i64 a7, .bool b] 112 (0, 0))).alloc (by simp) (.cells #[.int .u8 p, .int .u8 q] 109 (0, 0)))
  exact ⟨rfl, C1.out.trans (B6.out.mono (by simp; omega))⟩
set_option maxRecDepth 100000 in
set_option maxHeartbeats 1000000 in
theorem out2 (t : ByteArray) (a0 a1 a2 a3 a4 a5 a6 a7 p q : Int) (b : Bool) (w : World) (hl : ∀ w, Calls Try.prog 84 #[] w fun e w' => e = .returned (.bool true) ∧ Below w.heap.size w w') (h0 : decide (200 < (t.size : Int)) = false) (h1 : (a0 != 0) = false) (h2 : (a2 != 0) = true) :
    Calls Try.prog 17 #[.agg #[.int .u64 a0, .int .u64 a1, .int .u64 a2, .int .u64 a3, .int .i64 a4, .int .i64 a5, .int .i64 a6, .int .i64 a7, .bool b], .string t, .agg #[.int .u8 p, .int .u8 q]] w fun e w' => e = .returned (.bool true) ∧ Below w.heap.size w w' := by
  have HL := Lib.hid hl; clear hl
  go_enter Try.func17, Try.ntmps17
  go_wp2_with (go_at_call 84; refine (HL.out _).mono ?_; rintro e w6 ⟨rfl, hb⟩; have B6 := Lib.hid hb; clear hb)
  go_ret
  have C1 := Lib.hid (((Below.refl w.heap.size w).alloc (Nat.le_refl _) (.cells #[.int .u64 a0, .int .u64 a1, .int .u64 a2, .int .u64 a3, .int .i64 a4, .int .i64 a5, .int .i64 a6, .int .i64 a7, .bool b] 112 (0, 0))).alloc (by simp) (.cells #[.int .u8 p, .int .u8 q] 109 (0, 0)))
  exact ⟨rfl, C1.out.trans (B6.out.mono (by simp; omega))⟩
set_option maxRecDepth 100000 in
set_option maxHeartbeats 1000000 in
theorem out3 (t : ByteArray) (a0 a1 a2 a3 a4 a5 a6 a7 p q : Int) (b : Bool) (w : World) (hl : ∀ w, Calls Try.prog 84 #[] w fun e w' => e = .returned (.bool true) ∧ Below w.heap.size w w') (h0 : decide (200 < (t.size : Int)) = false) (h1 : (a0 != 0) = false) (h2 : (a2 != 0) = false) (h3 : decide (4294967295 < a1) = true) :
    Calls Try.prog 17 #[.agg #[.int .u64 a0, .int .u64 a1, .int .u64 a2, .int .u64 a3, .int .i64 a4, .int .i64 a5, .int .i64 a6, .int .i64 a7, .bool b], .string t, .agg #[.int .u8 p, .int .u8 q]] w fun e w' => e = .returned (.bool true) ∧ Below w.heap.size w w' := by
  have HL := Lib.hid hl; clear hl
  go_enter Try.func17, Try.ntmps17
  go_wp2_with (go_at_call 84; refine (HL.out _).mono ?_; rintro e w6 ⟨rfl, hb⟩; have B6 := Lib.hid hb; clear hb)
  go_ret
  have C1 := Lib.hid (((Below.refl w.heap.size w).alloc (Nat.le_refl _) (.cells #[.int .u64 a0, .int .u64 a1, .int .u64 a2, .int .u64 a3, .int .i64 a4, .int .i64 a5, .int .i64 a6, .int .i64 a7, .bool b] 112 (0, 0))).alloc (by simp) (.cells #[.int .u8 p, .int .u8 q] 109 (0, 0)))
  exact ⟨rfl, C1.out.trans (B6.out.mono (by simp; omega))⟩
set_option maxRecDepth 100000 in
set_option maxHeartbeats 1000000 in
theorem out4 (t : ByteArray) (a0 a1 a2 a3 a4 a5 a6 a7 p q : Int) (b : Bool) (w : World) (hl : ∀ w, Calls Try.prog 84 #[] w fun e w' => e = .returned (.bool true) ∧ Below w.heap.size w w') (h0 : decide (200 < (t.size : Int)) = false) (h1 : (a0 != 0) = false) (h2 : (a2 != 0) = false) (h3 : decide (4294967295 < a1) = false) (h4 : decide (4294967295 < a3) = true) :
    Calls Try.prog 17 #[.agg #[.int .u64 a0, .int .u64 a1, .int .u64 a2, .int .u64 a3, .int .i64 a4, .int .i64 a5, .int .i64 a6, .int .i64 a7, .bool b], .string t, .agg #[.int .u8 p, .int .u8 q]] w fun e w' => e = .returned (.bool true) ∧ Below w.heap.size w w' := by
  have HL := Lib.hid hl; clear hl
  go_enter Try.func17, Try.ntmps17
  go_wp2_with (go_at_call 84; refine (HL.out _).mono ?_; rintro e w6 ⟨rfl, hb⟩; have B6 := Lib.hid hb; clear hb)
  go_ret
  have C1 := Lib.hid (((Below.refl w.heap.size w).alloc (Nat.le_refl _) (.cells #[.int .u64 a0, .int .u64 a1, .int .u64 a2, .int .u64 a3, .int .i64 a4, .int .i64 a5, .int .i64 a6, .int .i64 a7, .bool b] 112 (0, 0))).alloc (by simp) (.cells #[.int .u8 p, .int .u8 q] 109 (0, 0)))
  exact ⟨rfl, C1.out.trans (B6.out.mono (by simp; omega))⟩
set_option maxRecDepth 100000 in
set_option maxHeartbeats 1000000 in
theorem out5 (t : ByteArray) (a0 a1 a2 a3 a4 a5 a6 a7 p q : Int) (b : Bool) (w : World) (hl : ∀ w, Calls Try.prog 84 #[] w fun e w' => e = .returned (.bool true) ∧ Below w.heap.size w w') (h0 : decide (200 < (t.size : Int)) = false) (h1 : (a0 != 0) = false) (h2 : (a2 != 0) = false) (h3 : decide (4294967295 < a1) = false) (h4 : decide (4294967295 < a3) = false) (h5 : decide (a4 < 0) = true) :
    Calls Try.prog 17 #[.agg #[.int .u64 a0, .int .u64 a1, .int .u64 a2, .int .u64 a3, .int .i64 a4, .int .i64 a5, .int .i64 a6, .int .i64 a7, .bool b], .string t, .agg #[.int .u8 p, .int .u8 q]] w fun e w' => e = .returned (.bool true) ∧ Below w.heap.size w w' := by
  have HL := Lib.hid hl; clear hl
  go_enter Try.func17, Try.ntmps17
  go_wp2_with (go_at_call 84; refine (HL.out _).mono ?_; rintro e w6 ⟨rfl, hb⟩; have B6 := Lib.hid hb; clear hb)
  go_ret
  have C1 := Lib.hid (((Below.refl w.heap.size w).alloc (Nat.le_refl _) (.cells #[.int .u64 a0, .int .u64 a1, .int .u64 a2, .int .u64 a3, .int .i64 a4, .int .i64 a5, .int .i64 a6, .int .i64 a7, .bool b] 112 (0, 0))).alloc (by simp) (.cells #[.int .u8 p, .int .u8 q] 109 (0, 0)))
  exact ⟨rfl, C1.out.trans (B6.out.mono (by simp; omega))⟩
set_option maxRecDepth 100000 in
set_option maxHeartbeats 1000000 in
theorem out6 (t : ByteArray) (a0 a1 a2 a3 a4 a5 a6 a7 p q : Int) (b : Bool) (w : World) (hl : ∀ w, Calls Try.prog 84 #[] w fun e w' => e = .returned (.bool true) ∧ Below w.heap.size w w') (h0 : decide (200 < (t.size : Int)) = false) (h1 : (a0 != 0) = false) (h2 : (a2 != 0) = false) (h3 : decide (4294967295 < a1) = false) (h4 : decide (4294967295 < a3) = false) (h5 : decide (a4 < 0) = false) (h6 : decide (255 < a4) = true) :
    Calls Try.prog 17 #[.agg #[.int .u64 a0, .int .u64 a1, .int .u64 a2, .int .u64 a3, .int .i64 a4, .int .i64 a5, .int .i64 a6, .int .i64 a7, .bool b], .string t, .agg #[.int .u8 p, .int .u8 q]] w fun e w' => e = .returned (.bool true) ∧ Below w.heap.size w w' := by
  have HL := Lib.hid hl; clear hl
  go_enter Try.func17, Try.ntmps17
  go_wp2_with (go_at_call 84; refine (HL.out _).mono ?_; rintro e w6 ⟨rfl, hb⟩; have B6 := Lib.hid hb; clear hb)
  go_ret
  have C1 := Lib.hid (((Below.refl w.heap.size w).alloc (Nat.le_refl _) (.cells #[.int .u64 a0, .int .u64 a1, .int .u64 a2, .int .u64 a3, .int .i64 a4, .int .i64 a5, .int .i64 a6, .int .i64 a7, .bool b] 112 (0, 0))).alloc (by simp) (.cells #[.int .u8 p, .int .u8 q] 109 (0, 0)))
  exact ⟨rfl, C1.out.trans (B6.out.mono (by simp; omega))⟩
set_option maxRecDepth 100000 in
set_option maxHeartbeats 1000000 in
theorem out7 (t : ByteArray) (a0 a1 a2 a3 a4 a5 a6 a7 p q : Int) (b : Bool) (w : World) (hl : ∀ w, Calls Try.prog 84 #[] w fun e w' => e = .returned (.bool true) ∧ Below w.heap.size w w') (h0 : decide (200 < (t.size : Int)) = false) (h1 : (a0 != 0) = false) (h2 : (a2 != 0) = false) (h3 : decide (4294967295 < a1) = false) (h4 : decide (4294967295 < a3) = false) (h5 : decide (a4 < 0) = false) (h6 : decide (255 < a4) = false) (h7 : decide (a7 < 0) = true) :
    Calls Try.prog 17 #[.agg #[.int .u64 a0, .int .u64 a1, .int .u64 a2, .int .u64 a3, .int .i64 a4, .int .i64 a5, .int .i64 a6, .int .i64 a7, .bool b], .string t, .agg #[.int .u8 p, .int .u8 q]] w fun e w' => e = .returned (.bool true) ∧ Below w.heap.size w w' := by
  have HL := Lib.hid hl; clear hl
  go_enter Try.func17, Try.ntmps17
  go_wp2_with (go_at_call 84; refine (HL.out _).mono ?_; rintro e w6 ⟨rfl, hb⟩; have B6 := Lib.hid hb; clear hb)
  go_ret
  have C1 := Lib.hid (((Below.refl w.heap.size w).alloc (Nat.le_refl _) (.cells #[.int .u64 a0, .int .u64 a1, .int .u64 a2, .int .u64 a3, .int .i64 a4, .int .i64 a5, .int .i64 a6, .int .i64 a7, .bool b] 112 (0, 0))).alloc (by simp) (.cells #[.int .u8 p, .int .u8 q] 109 (0, 0)))
  exact ⟨rfl, C1.out.trans (B6.out.mono (by simp; omega))⟩
set_option maxRecDepth 100000 in
set_option maxHeartbeats 1000000 in
theorem out8 (t : ByteArray) (a0 a1 a2 a3 a4 a5 a6 a7 p q : Int) (b : Bool) (w : World) (hl : ∀ w, Calls Try.prog 84 #[] w fun e w' => e = .returned (.bool true) ∧ Below w.heap.size w w') (h0 : decide (200 < (t.size : Int)) = false) (h1 : (a0 != 0) = false) (h2 : (a2 != 0) = false) (h3 : decide (4294967295 < a1) = false) (h4 : decide (4294967295 < a3) = false) (h5 : decide (a4 < 0) = false) (h6 : decide (255 < a4) = false) (h7 : decide (a7 < 0) = false) (h8 : decide (8191 < a7) = true) :
    Calls Try.prog 17 #[.agg #[.int .u64 a0, .int .u64 a1, .int .u64 a2, .int .u64 a3, .int .i64 a4, .int .i64 a5, .int .i64 a6, .int .i64 a7, .bool b], .string t, .agg #[.int .u8 p, .int .u8 q]] w fun e w' => e = .returned (.bool true) ∧ Below w.heap.size w w' := by
  have HL := Lib.hid hl; clear hl
  go_enter Try.func17, Try.ntmps17
  go_wp2_with (go_at_call 84; refine (HL.out _).mono ?_; rintro e w6 ⟨rfl, hb⟩; have B6 := Lib.hid hb; clear hb)
  go_ret
  have C1 := Lib.hid (((Below.refl w.heap.size w).alloc (Nat.le_refl _) (.cells #[.int .u64 a0, .int .u64 a1, .int .u64 a2, .int .u64 a3, .int .i64 a4, .int .i64 a5, .int .i64 a6, .int .i64 a7, .bool b] 112 (0, 0))).alloc (by simp) (.cells #[.int .u8 p, .int .u8 q] 109 (0, 0)))
  exact ⟨rfl, C1.out.trans (B6.out.mono (by simp; omega))⟩
end Go.Proofs.Ytlnnghbbjbimoaa.Ipv4B
