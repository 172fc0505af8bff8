/- octets.Reader's numbers: high, U8, U16, U32, U64, End, Bool, walked. -/
import Derived.Test.YtlnnghbbjbimoaaReader
import Derived.Deep.LoopGhost
import Derived.Laws.BitsLemmas
import Derived.Laws.Bits64
import Derived.Lib.Hide
namespace Go.Proofs.Ytlnnghbbjbimoaa.Reader
open Go Go.RowKit Go.Proofs.YtlnnghbbjbimoaaW.PrintWords Go.Proofs.YtlnnghbbjbimoaaW.PrintLast Go.Proofs.YtlnnghbbjbimoaaW.PrintMore
set_option linter.unusedVariables false
set_option linter.unusedSimpArgs false

/-- the number of k bytes from a place, the highest first -/
def nm (s : ByteArray) (a : Int) : Nat → Int
  | 0 => 0
  | k + 1 => nm s a k * 256 + bt s (a + k)
theorem bt_r (s : ByteArray) (i : Int) : 0 ≤ bt s i ∧ bt s i ≤ 255 := by
  unfold bt; split
  · have := (s[i.toNat]).toNat_lt; omega
  · omega
theorem nm_range (s : ByteArray) (a : Int) (k : Nat) : 0 ≤ nm s a k ∧ nm s a k < 256 ^ k := by
  induction k with
  | zero => simp [nm]
  | succ k ih => have := bt_r s (a + k); simp only [nm, Int.pow_succ]; omega
theorem bt_ext (s : ByteArray) (a b : Nat) (i : Nat) (hi : a + i < b) (hb : b ≤ s.size) : bt (s.extract a b) (i : Int) = bt s ((a : Int) + i) := by
  have e1 : ((a : Int) + i).toNat = a + i := by omega
  unfold bt
  rw [dif_pos (by simp only [ByteArray.size_extract]; omega), dif_pos (by omega)]
  simp [ByteArray.getElem_eq_getElem_data, ByteArray.data_extract, e1]
theorem nm_ext (s : ByteArray) (a b : Nat) (hb : b ≤ s.size) : ∀ k : Nat, a + k ≤ b → nm (s.extract a b) 0 k = nm s a k
  | 0, _ => rfl
  | k + 1, hk => by
    simp only [nm]
    rw [nm_ext s a b hb k (by omega)]
    have := bt_ext s a b k (by omega) hb
    rw [Int.zero_add, this]
theorem or_byte (x b : Int) (hx : 0 ≤ x ∧ x < 72057594037927936) (hb : 0 ≤ b ∧ b ≤ 255) : bits .or .u64 (x * 256) b = x * 256 + b := by
  exact bits_join .u64 64 (by decide) (fun n h0 h1 => by rw [IntKind.wrap_u64]; omega) 8 (x * 256) b (by omega) (by omega) (by omega) (by omega) (by omega) (by omega)
set_option maxRecDepth 100000 in
set_option maxHeartbeats 1000000 in
theorem high_ok (s : ByteArray) (w : World) (hs : s.size ≤ 8) : Calls Try.prog 119 #[.string s] w fun e w' => e = .returned (.int .u64 (nm s 0 s.size)) ∧ Below w.heap.size w w' := by
  go_enter Try.func119, Try.ntmps119
  go_wp2_with fail
  go_loopg [3, 7] s.size (fun k n x wr => ∃ j : Nat, Hid (j + k = s.size) ∧ n = .int .u64 (nm s 0 j) ∧ x = .int .i64 (j : Int) ∧ Hid (Below w.heap.size w wr))
  case atStart => exact ⟨0, Lib.hid (by omega), rfl, rfl, Lib.hid (Below.refl _ _)⟩
  case round =>
    obtain ⟨j, HJ, rfl, rfl, HB⟩ := hrel
    by_cases hlt : (j : Int) < s.size
    · have h1 : decide ((j : Int) < (s.size : Int)) = true := decide_eq_true hlt
      have hb : 0 ≤ (j : Int) ∧ (j : Int) < (s.size : Int) := ⟨by omega, hlt⟩
      have hr := nm_range s 0 j
      have hby := bt_r s j
      have hbt : bt s (j : Int) = ((s[j]'(by omega)).toNat : Int) := by
        unfold bt; rw [dif_pos (by omega)]; simp
      have hk : gk = (gk - 1) + 1 := by have := HJ.out; omega
      have hp : (256 : Int) ^ j ≤ 72057594037927936 := by
        have h8 : ∀ q : Fin 8, (256 : Int) ^ (q : Nat) ≤ 72057594037927936 := by decide
        exact h8 ⟨j, by omega⟩
      have hx : bits BinOp.or IntKind.u64 (IntKind.u64.wrap (nm s 0 j * 256)) (IntKind.u64.wrap ((s[j]'(by omega)).toNat : Int)) = nm s 0 (j + 1) := by
        rw [← hbt]
        have e1 : IntKind.u64.wrap (nm s 0 j * 256) = nm s 0 j * 256 := by rw [IntKind.wrap_u64]; omega
        have e2 : IntKind.u64.wrap (bt s j) = bt s j := by rw [IntKind.wrap_u64]; omega
        rw [e1, e2, or_byte _ _ (by omega) hby]
        simp only [nm, Int.zero_add]
      have HX := Lib.hid hx
      have HK := Lib.hid hk
      clear hr hby hbt hp hk hx
      go_wp2
      go_roundg (gk - 1)
      case measure => have := HK.out; omega
      case rel => exact ⟨j + 1, Lib.hid (by have := HJ.out; have := HK.out; omega), by rw [HX.out], by simp, HB⟩
    · have h1 : decide ((j : Int) < (s.size : Int)) = false := decide_eq_false hlt
      go_wp2
      go_ret
      have e : j = s.size := by have := HJ.out; omega
      subst e
      exact ⟨rfl, HB.out⟩
set_option maxRecDepth 100000 in
set_option maxHeartbeats 1000000 in
theorem u8_ok (g : Nat) (s : ByteArray) (a : Int) (w : World) (h : Rd w g s a) (hs : s.size < 4611686018427387904) (hn : 0 ≤ a ∧ a + 1 ≤ s.size) :
    Calls Try.prog 105 #[.pointer (some ⟨g, 0, none⟩)] w fun e w' => e = .returned (.int .i64 (nm s a 1)) ∧ Rd w' g s (a + 1) ∧ w.grownBy w' (some g) := by
  have H := Lib.hid h; clear h
  have hr := nm_range s a 1
  have hz : (s.extract a.toNat (a + 1).toNat).size = 1 := by simp only [ByteArray.size_extract]; omega
  have hv : nm (s.extract a.toNat (a + 1).toNat) 0 1 = nm s a 1 := by
    have := nm_ext s a.toNat (a + 1).toNat (by omega) 1 (by omega)
    rw [this]; congr 1; omega
  have ew : wrap64 (nm s a 1) = nm s a 1 := by unfold wrap64; omega
  have ew2 : IntKind.i64.wrap (nm s a 1) = nm s a 1 := by simp [IntKind.wrap, IntKind.bits, IntKind.signed]; omega
  go_enter Try.func105, Try.ntmps105
  go_wp2_with (first | (go_at_call 104; refine (take_ok g s a 1 _ H.out (by omega) hs (by omega)).mono ?_; rintro e w1 ⟨rfl, hr1, hg1⟩; have HR := Lib.hid hr1; have HG := Lib.hid hg1; clear hr1 hg1) | (go_at_call 119; refine (high_ok _ _ (by omega)).mono ?_; rintro e w2 ⟨rfl, hb2⟩; have HB := Lib.hid hb2; clear hb2))
  go_ret
  exact ⟨by first | rfl | rw [ew] | rw [ew2], HR.out.below HB.out, HG.out.trans (grown_below HB.out _)⟩
set_option maxRecDepth 100000 in
set_option maxHeartbeats 1000000 in
theorem u8_short (g : Nat) (s : ByteArray) (a : Int) (w : World) (h : Rd w g s a) (hs : s.size < 4611686018427387904) (hn : 0 ≤ a ∧ a ≤ s.size ∧ s.size < a + 1) :
    Calls Try.prog 105 #[.pointer (some ⟨g, 0, none⟩)] w fun e w' => e = .panicked (up 5) ∧ Below w.heap.size w w' := by
  have H := Lib.hid h; clear h
  go_enter Try.func105, Try.ntmps105
  go_wp2_with (go_at_call 104; refine (take_short g s a 1 _ H.out (by omega) hs (by omega)).mono ?_; rintro e w1 ⟨rfl, hb1⟩; have HB := Lib.hid hb1; clear hb1)
  simp [bodyPost]
  exact HB.out
set_option maxRecDepth 100000 in
set_option maxHeartbeats 1000000 in
theorem u16_ok (g : Nat) (s : ByteArray) (a : Int) (w : World) (h : Rd w g s a) (hs : s.size < 4611686018427387904) (hn : 0 ≤ a ∧ a + 2 ≤ s.size) :
    Calls Try.prog 91 #[.pointer (some ⟨g, 0, none⟩)] w fun e w' => e = .returned (.int .i64 (nm s a 2)) ∧ Rd w' g s (a + 2) ∧ w.grownBy w' (some g) := by
  have H := Lib.hid h; clear h
  have hr := nm_range s a 2
  have hz : (s.extract a.toNat (a + 2).toNat).size = 2 := by simp only [ByteArray.size_extract]; omega
  have hv : nm (s.extract a.toNat (a + 2).toNat) 0 2 = nm s a 2 := by
    have := nm_ext s a.toNat (a + 2).toNat (by omega) 2 (by omega)
    rw [this]; congr 1; omega
  have ew : wrap64 (nm s a 2) = nm s a 2 := by unfold wrap64; omega
  have ew2 : IntKind.i64.wrap (nm s a 2) = nm s a 2 := by simp [IntKind.wrap, IntKind.bits, IntKind.signed]; omega
  go_enter Try.func91, Try.ntmps91
  go_wp2_with (first | (go_at_call 104; refine (take_ok g s a 2 _ H.out (by omega) hs (by omega)).mono ?_; rintro e w1 ⟨rfl, hr1, hg1⟩; have HR := Lib.hid hr1; have HG := Lib.hid hg1; clear hr1 hg1) | (go_at_call 119; refine (high_ok _ _ (by omega)).mono ?_; rintro e w2 ⟨rfl, hb2⟩; have HB := Lib.hid hb2; clear hb2))
  go_ret
  exact ⟨by first | rfl | rw [ew] | rw [ew2], HR.out.below HB.out, HG.out.trans (grown_below HB.out _)⟩
set_option maxRecDepth 100000 in
set_option maxHeartbeats 1000000 in
theorem u16_short (g : Nat) (s : ByteArray) (a : Int) (w : World) (h : Rd w g s a) (hs : s.size < 4611686018427387904) (hn : 0 ≤ a ∧ a ≤ s.size ∧ s.size < a + 2) :
    Calls Try.prog 91 #[.pointer (some ⟨g, 0, none⟩)] w fun e w' => e = .panicked (up 5) ∧ Below w.heap.size w w' := by
  have H := Lib.hid h; clear h
  go_enter Try.func91, Try.ntmps91
  go_wp2_with (go_at_call 104; refine (take_short g s a 2 _ H.out (by omega) hs (by omega)).mono ?_; rintro e w1 ⟨rfl, hb1⟩; have HB := Lib.hid hb1; clear hb1)
  simp [bodyPost]
  exact HB.out
set_option maxRecDepth 100000 in
set_option maxHeartbeats 1000000 in
theorem u32_ok (g : Nat) (s : ByteArray) (a : Int) (w : World) (h : Rd w g s a) (hs : s.size < 4611686018427387904) (hn : 0 ≤ a ∧ a + 4 ≤ s.size) :
    Calls Try.prog 108 #[.pointer (some ⟨g, 0, none⟩)] w fun e w' => e = .returned (.int .i64 (nm s a 4)) ∧ Rd w' g s (a + 4) ∧ w.grownBy w' (some g) := by
  have H := Lib.hid h; clear h
  have hr := nm_range s a 4
  have hz : (s.extract a.toNat (a + 4).toNat).size = 4 := by simp only [ByteArray.size_extract]; omega
  have hv : nm (s.extract a.toNat (a + 4).toNat) 0 4 = nm s a 4 := by
    have := nm_ext s a.toNat (a + 4).toNat (by omega) 4 (by omega)
    rw [this]; congr 1; omega
  have ew : wrap64 (nm s a 4) = nm s a 4 := by unfold wrap64; omega
  have ew2 : IntKind.i64.wrap (nm s a 4) = nm s a 4 := by simp [IntKind.wrap, IntKind.bits, IntKind.signed]; omega
  go_enter Try.func108, Try.ntmps108
  go_wp2_with (first | (go_at_call 104; refine (take_ok g s a 4 _ H.out (by omega) hs (by omega)).mono ?_; rintro e w1 ⟨rfl, hr1, hg1⟩; have HR := Lib.hid hr1; have HG := Lib.hid hg1; clear hr1 hg1) | (go_at_call 119; refine (high_ok _ _ (by omega)).mono ?_; rintro e w2 ⟨rfl, hb2⟩; have HB := Lib.hid hb2; clear hb2))
  go_ret
  exact ⟨by first | rfl | rw [ew] | rw [ew2], HR.out.below HB.out, HG.out.trans (grown_below HB.out _)⟩
set_option maxRecDepth 100000 in
set_option maxHeartbeats 1000000 in
theorem u32_short (g : Nat) (s : ByteArray) (a : Int) (w : World) (h : Rd w g s a) (hs : s.size < 4611686018427387904) (hn : 0 ≤ a ∧ a ≤ s.size ∧ s.size < a + 4) :
    Calls Try.prog 108 #[.pointer (some ⟨g, 0, none⟩)] w fun e w' => e = .panicked (up 5) ∧ Below w.heap.size w w' := by
  have H := Lib.hid h; clear h
  go_enter Try.func108, Try.ntmps108
  go_wp2_with (go_at_call 104; refine (take_short g s a 4 _ H.out (by omega) hs (by omega)).mono ?_; rintro e w1 ⟨rfl, hb1⟩; have HB := Lib.hid hb1; clear hb1)
  simp [bodyPost]
  exact HB.out
set_option maxRecDepth 100000 in
set_option maxHeartbeats 1000000 in
theorem u64_ok (g : Nat) (s : ByteArray) (a : Int) (w : World) (h : Rd w g s a) (hs : s.size < 4611686018427387904) (hn : 0 ≤ a ∧ a + 8 ≤ s.size) :
    Calls Try.prog 61 #[.pointer (some ⟨g, 0, none⟩)] w fun e w' => e = .returned (.int .u64 (nm s a 8)) ∧ Rd w' g s (a + 8) ∧ w.grownBy w' (some g) := by
  have H := Lib.hid h; clear h
  have hr := nm_range s a 8
  have hz : (s.extract a.toNat (a + 8).toNat).size = 8 := by simp only [ByteArray.size_extract]; omega
  have hv : nm (s.extract a.toNat (a + 8).toNat) 0 8 = nm s a 8 := by
    have := nm_ext s a.toNat (a + 8).toNat (by omega) 8 (by omega)
    rw [this]; congr 1; omega
  go_enter Try.func61, Try.ntmps61
  go_wp2_with (first | (go_at_call 104; refine (take_ok g s a 8 _ H.out (by omega) hs (by omega)).mono ?_; rintro e w1 ⟨rfl, hr1, hg1⟩; have HR := Lib.hid hr1; have HG := Lib.hid hg1; clear hr1 hg1) | (go_at_call 119; refine (high_ok _ _ (by omega)).mono ?_; rintro e w2 ⟨rfl, hb2⟩; have HB := Lib.hid hb2; clear hb2))
  go_ret
  exact ⟨rfl, HR.out.below HB.out, HG.out.trans (grown_below HB.out _)⟩
set_option maxRecDepth 100000 in
set_option maxHeartbeats 1000000 in
theorem u64_short (g : Nat) (s : ByteArray) (a : Int) (w : World) (h : Rd w g s a) (hs : s.size < 4611686018427387904) (hn : 0 ≤ a ∧ a ≤ s.size ∧ s.size < a + 8) :
    Calls Try.prog 61 #[.pointer (some ⟨g, 0, none⟩)] w fun e w' => e = .panicked (up 5) ∧ Below w.heap.size w w' := by
  have H := Lib.hid h; clear h
  go_enter Try.func61, Try.ntmps61
  go_wp2_with (go_at_call 104; refine (take_short g s a 8 _ H.out (by omega) hs (by omega)).mono ?_; rintro e w1 ⟨rfl, hb1⟩; have HB := Lib.hid hb1; clear hb1)
  simp [bodyPost]
  exact HB.out
set_option maxRecDepth 100000 in
set_option maxHeartbeats 1000000 in
theorem end_ok (g : Nat) (s : ByteArray) (w : World) (h : Rd w g s s.size) (hs : s.size < 4611686018427387904) :
    Calls Try.prog 65 #[.pointer (some ⟨g, 0, none⟩)] w fun e w' => e = .returned (.tuple #[]) ∧ Below w.heap.size w w' := by
  have H := Lib.hid h; clear h
  have h0 : ((s.size : Int) - s.size == 0) = true := by simp
  go_enter Try.func65, Try.ntmps65
  go_wp2_with (first | (go_at_call 51; refine (left_ok g s s.size _ H.out (by omega) (by omega)).mono ?_; rintro e w1 ⟨rfl, hb1⟩; have HB := Lib.hid hb1; clear hb1) | (go_at_call 103; with_reducible refine (need_ok _ _ _).mono ?_; rintro e w2 ⟨rfl, rfl⟩))
  go_end0
  exact ⟨rfl, HB.out⟩
set_option maxRecDepth 100000 in
set_option maxHeartbeats 1000000 in
theorem end_long (g : Nat) (s : ByteArray) (a : Int) (w : World) (h : Rd w g s a) (ha : 0 ≤ a ∧ a < s.size) (hs : s.size < 4611686018427387904) :
    Calls Try.prog 65 #[.pointer (some ⟨g, 0, none⟩)] w fun e w' => e = .panicked (up 4) ∧ Below w.heap.size w w' := by
  have H := Lib.hid h; clear h
  have h0 : ((s.size : Int) - a == 0) = false := by simp; omega
  go_enter Try.func65, Try.ntmps65
  go_wp2_with (first | (go_at_call 51; refine (left_ok g s a _ H.out (by omega) (by omega)).mono ?_; rintro e w1 ⟨rfl, hb1⟩; have HB := Lib.hid hb1; clear hb1) | (go_at_call 103; with_reducible refine (need_no _ 4 _ rfl).mono ?_; rintro e w2 ⟨rfl, hb2⟩; have HB2 := Lib.hid hb2; clear hb2))
  simp [bodyPost]
  exact HB.out.trans (HB2.out.mono HB.out.size)
def Blk (w : World) (b : Nat) (v : Value) (t : Nat) : Prop := w.heap[b]? = some (.cells #[v] t (0, 0))
theorem Blk.c {w : World} {b t : Nat} {v : Value} (h : Blk w b v t) : w.cell? ⟨b, 0, none⟩ = some v := (blk_cell h 0).trans rfl
theorem Blk.drew {w : World} {b t : Nat} {v : Value} (h : Blk w b v t) : Blk w.drew b v t := h
theorem Blk.grown {w w' : World} {b t g : Nat} {v : Value} (h : Blk w b v t) (hg : w.grownBy w' (some g)) (hne : b ≠ g) : Blk w' b v t := blk_grown h hg (by simpa using hne)
theorem Blk.far {w : World} {b t c i : Nat} {v u : Value} (h : Blk w b v t) (hne : b ≠ c) : Blk (w.setCell ⟨c, i, none⟩ u) b v t := blk_far h hne u
theorem Blk.put {w : World} {b t : Nat} {v u : Value} (h : Blk w b v t) : Blk (w.setCell ⟨b, 0, none⟩ u) b u t := blk_put h 0 u rfl
theorem Rd.far {w : World} {g c i : Nat} {s : ByteArray} {a : Int} {u : Value} (h : Rd w g s a) (hne : g ≠ c) : Rd (w.setCell ⟨c, i, none⟩ u) g s a := blk_far h hne u
theorem Blk.f {w : World} {b t : Nat} {v : Value} (h : Blk w b v t) : w.frozen? ⟨b, 0, none⟩ = false := blk_frozen h 0
end Go.Proofs.Ytlnnghbbjbimoaa.Reader
