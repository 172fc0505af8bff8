/- inet.Of, walked. -/
import Derived.Test.YtlnnghbbjbimoaaInetOf
import Derived.Deep.QuietTactic
import Derived.BigQuiet
namespace Go.Proofs.Ytlnnghbbjbimoaa.InetOf
open Go Go.RowKit Go.Proofs.Ytlnnghbbjbimoaa.Reader Go.Proofs.Ytlnnghbbjbimoaa.Tries Go.Proofs.YtlnnghbbjbimoaaW.PrintWords Go.Proofs.YtlnnghbbjbimoaaW.PrintLast Go.Proofs.YtlnnghbbjbimoaaW.PrintMore
set_option linter.unusedVariables false
set_option linter.unusedSimpArgs false
theorem new_at (w : World) (o : Obj) (n : Nat) (h : w.heap.size = n) : (w.alloc o).heap[n]? = some o := h ▸ blk_new w o
theorem lay (w : World) : (((w.alloc (.cells #[.int .u64 0, .int .u64 0] 37 (0, 0))).alloc (.cells #[.int .u64 0, .int .u64 0] 37 (0, 0))).alloc (.cells #[.int .i64 0] 3 (0, 0))).heap[w.heap.size]? = some (.cells #[.int .u64 0, .int .u64 0] 37 (0, 0)) ∧ (((w.alloc (.cells #[.int .u64 0, .int .u64 0] 37 (0, 0))).alloc (.cells #[.int .u64 0, .int .u64 0] 37 (0, 0))).alloc (.cells #[.int .i64 0] 3 (0, 0))).heap[w.heap.size + 1]? = some (.cells #[.int .u64 0, .int .u64 0] 37 (0, 0)) ∧ Blk (((w.alloc (.cells #[.int .u64 0, .int .u64 0] 37 (0, 0))).alloc (.cells #[.int .u64 0, .int .u64 0] 37 (0, 0))).alloc (.cells #[.int .i64 0] 3 (0, 0))) (w.heap.size + 1 + 1) (.int .i64 0) 3 ∧ Below w.heap.size w (((w.alloc (.cells #[.int .u64 0, .int .u64 0] 37 (0, 0))).alloc (.cells #[.int .u64 0, .int .u64 0] 37 (0, 0))).alloc (.cells #[.int .i64 0] 3 (0, 0))) ∧ (((w.alloc (.cells #[.int .u64 0, .int .u64 0] 37 (0, 0))).alloc (.cells #[.int .u64 0, .int .u64 0] 37 (0, 0))).alloc (.cells #[.int .i64 0] 3 (0, 0))).heap.size = w.heap.size + 3 := by
  refine ⟨blk_alloc (blk_alloc (blk_new w _) _) _, blk_alloc (new_at _ _ _ (by simp)) _, new_at _ _ _ (by simp), ?_, by simp⟩
  exact (((Below.refl w.heap.size w).alloc (Nat.le_refl _) _).alloc (by simp) _).alloc (by simp; omega) _
theorem env_of (s : ByteArray) (n : Nat) (w : World) (hz : w.heap.size = n + 3) (k1 : w.heap[n + 1]? = some (.cells #[.int .u64 0, .int .u64 0] 37 (0, 0))) (k2 : Blk w (n + 1 + 1) (.int .i64 0) 3) :
    Env ((w.alloc (.cells #[.int .i64 0] 47 (0, 0))).alloc (.cells #[.string s, .int .i64 0] 141 (0, 0))) (n + 1) (w.heap.size + 1) (n + 1 + 1) (n + 1) w.heap.size s 0 0 0 0 := by
  refine ⟨new_at _ _ _ (by simp), blk_alloc (blk_alloc k2 _) _, blk_alloc (blk_alloc k1 _) _, blk_alloc (blk_new _ _) _, ?_, ?_⟩ <;> omega
set_option maxRecDepth 100000 in
theorem hent (args : Array Value) (w : World) : Sem.run Try.prog (callFunc 116 args) w = .ok (.enter 116 args) w := by first | rfl | kernel_rfl
set_option maxRecDepth 100000 in
set_option maxHeartbeats 2000000 in
theorem of_good (s : ByteArray) (w : World) (a v h l : Int) (hv : (v == 0) = false) (hclo : ∀ (n0 g bv ba be : Nat) (w : World), Env w n0 g bv ba be s 0 0 0 0 → n0 ≤ w.heap.size → Calls Try.prog 116 #[.pointer (some ⟨g, 0, none⟩), .pointer (some ⟨bv, 0, none⟩), .pointer (some ⟨ba, 0, none⟩)] w fun e w' => e = .returned (.tuple #[]) ∧ Env w' n0 g bv ba be s a v h l ∧ Below n0 w w') :
    Calls Try.prog 55 #[.string s] w fun e w' => e = .returned (.tuple #[.agg #[.int .u64 h, .int .u64 l], .int .i64 v, .bool true]) ∧ Below w.heap.size w w' := by
  have hmf := hmf
  obtain ⟨k0, k1, k2, hb, hz⟩ := lay w
  have K0 := Lib.hid k0; have K1 := Lib.hid k1; have K2 := Lib.hid k2; have HB := Lib.hid hb; have HZ := Lib.hid hz; clear k0 k1 k2 hb hz
  have HC := Lib.hid hclo; clear hclo
  go_enter Try.func55, Try.ntmps55
  go_wp2_with (fail)
  revert K0 K1 K2 HB HZ
  generalize (((w.alloc (.cells #[.int .u64 0, .int .u64 0] 37 (0, 0))).alloc (.cells #[.int .u64 0, .int .u64 0] 37 (0, 0))).alloc (.cells #[.int .i64 0] 3 (0, 0))) = wl
  intro K0 K1 K2 HB HZ
  have E := Lib.hid (env_of s w.heap.size wl HZ.out K1.out K2.out)
  refine (try_ok s 116 _ wl (fun w' => Env w' (w.heap.size + 1) (wl.heap.size + 1) (w.heap.size + 1 + 1) (w.heap.size + 1) wl.heap.size s a v h l ∧ Below (w.heap.size + 1) wl w') hent ?hc).mono ?_
  case hc =>
    refine (HC.out _ _ _ _ _ _ E.out (by have := HZ.out; simp; omega)).mono ?_
    rintro e w2 ⟨rfl, HE, hB⟩
    have hB := ((((Below.refl (w.heap.size + 1) wl).alloc (by have := HZ.out; omega) (.cells #[.int .i64 0] 47 (0, 0))).alloc (by have := HZ.out; simp; omega) (.cells #[.string s, .int .i64 0] 141 (0, 0))).trans hB)
    exact ⟨rfl, ⟨HE, hB⟩, HE.he.c, HE.he.f⟩
  rintro e w' ⟨rfl, w2, ⟨HE, hB⟩, rfl⟩
  dsimp only
  have hQ : w2.heap[w.heap.size]? = some (.cells #[.int .u64 0, .int .u64 0] 37 (0, 0)) := (hB.block _ (by have := HZ.out; omega)).trans K0.out
  have kv : Blk (w2.setCell ⟨wl.heap.size, 0, none⟩ (.int .i64 0)) _ _ _ := HE.hv.far (by have := HZ.out; omega)
  have ka : (w2.setCell ⟨wl.heap.size, 0, none⟩ (.int .i64 0)).heap[w.heap.size + 1]? = _ := blk_far HE.ha (p := ⟨wl.heap.size, 0, none⟩) (by show w.heap.size + 1 ≠ wl.heap.size; have := HZ.out; omega) _
  have k0 : (w2.setCell ⟨wl.heap.size, 0, none⟩ (.int .i64 0)).heap[w.heap.size]? = some (.cells #[.int .u64 0, .int .u64 0] 37 (0, 0)) := blk_far (hQ) (p := ⟨wl.heap.size, 0, none⟩) (by show w.heap.size ≠ wl.heap.size; have := HZ.out; omega) _
  have kb := (HB.out.trans (hB.mono (Nat.le_succ _))).setCell (p := ⟨wl.heap.size, 0, none⟩) (show w.heap.size ≤ wl.heap.size by have := HZ.out; omega) (.int .i64 0)
  revert kv ka k0 kb
  generalize w2.setCell ⟨wl.heap.size, 0, none⟩ (.int .i64 0) = wq
  intro kv ka k0 kb
  have d0 : wq.cell? ⟨w.heap.size + 1, 0, none⟩ = some (.int .u64 h) := (blk_cell ka 0).trans rfl
  have d1 : wq.cell? ⟨w.heap.size + 1, 1, none⟩ = some (.int .u64 l) := (blk_cell ka 1).trans rfl
  have e0 : wq.cell? ⟨w.heap.size, 0, none⟩ = some (.int .u64 0) := (blk_cell k0 0).trans rfl
  have e1 : wq.cell? ⟨w.heap.size, 1, none⟩ = some (.int .u64 0) := (blk_cell k0 1).trans rfl
  have f0 := blk_frozen k0 0; have f1 := blk_frozen k0 1; have dv := kv.c
  have KV := Lib.hid kv; have KA := Lib.hid ka; have K00 := Lib.hid k0; have KB := Lib.hid kb
  clear kv ka k0 kb hQ HE hB E HC HB HZ K0 K1 K2
  go_wp2
  go_region_held3 (fun w' => w'.cell? ⟨w.heap.size + 1, 0, none⟩ = some (.int .u64 h) ∧ w'.cell? ⟨w.heap.size + 1, 1, none⟩ = some (.int .u64 l) ∧ w'.cell? ⟨w.heap.size + 1 + 1, 0, none⟩ = some (.int .i64 v)) (first | assumption | (refine ⟨?_, ?_, ?_⟩ <;> first | assumption | simp [*, go_sem]) | simp [*, go_sem]) (fail)
  all_goals
    go_wp2
    exact bodyPost_ret (v := .tuple #[.agg #[.int .u64 h, .int .u64 l], .int .i64 v, .bool true]) (by simp [results, Try.results55, go_sem, loadVar, *]) rfl ⟨rfl, by first | exact ((KB.out.setCell (p := ⟨w.heap.size, 0, none⟩) (Nat.le_refl _) _).setCell (p := ⟨w.heap.size, 1, none⟩) (Nat.le_refl _) _).drew | exact (KB.out.setCell (p := ⟨w.heap.size, 0, none⟩) (Nat.le_refl _) _).setCell (p := ⟨w.heap.size, 1, none⟩) (Nat.le_refl _) _⟩
set_option maxRecDepth 100000 in
set_option maxHeartbeats 2000000 in
theorem of_zero (s : ByteArray) (w : World) (a h l : Int) (hclo : ∀ (n0 g bv ba be : Nat) (w : World), Env w n0 g bv ba be s 0 0 0 0 → n0 ≤ w.heap.size → Calls Try.prog 116 #[.pointer (some ⟨g, 0, none⟩), .pointer (some ⟨bv, 0, none⟩), .pointer (some ⟨ba, 0, none⟩)] w fun e w' => e = .returned (.tuple #[]) ∧ Env w' n0 g bv ba be s a 0 h l ∧ Below n0 w w') :
    Calls Try.prog 55 #[.string s] w fun e w' => e = .returned (.tuple #[.agg #[.int .u64 0, .int .u64 0], .int .i64 0, .bool false]) ∧ Below w.heap.size w w' := by
  have hmf := hmf
  obtain ⟨k0, k1, k2, hb, hz⟩ := lay w
  have K0 := Lib.hid k0; have K1 := Lib.hid k1; have K2 := Lib.hid k2; have HB := Lib.hid hb; have HZ := Lib.hid hz; clear k0 k1 k2 hb hz
  have HC := Lib.hid hclo; clear hclo
  go_enter Try.func55, Try.ntmps55
  go_wp2_with (fail)
  revert K0 K1 K2 HB HZ
  generalize (((w.alloc (.cells #[.int .u64 0, .int .u64 0] 37 (0, 0))).alloc (.cells #[.int .u64 0, .int .u64 0] 37 (0, 0))).alloc (.cells #[.int .i64 0] 3 (0, 0))) = wl
  intro K0 K1 K2 HB HZ
  have E := Lib.hid (env_of s w.heap.size wl HZ.out K1.out K2.out)
  refine (try_ok s 116 _ wl (fun w' => Env w' (w.heap.size + 1) (wl.heap.size + 1) (w.heap.size + 1 + 1) (w.heap.size + 1) wl.heap.size s a 0 h l ∧ Below (w.heap.size + 1) wl w') hent ?hc).mono ?_
  case hc =>
    refine (HC.out _ _ _ _ _ _ E.out (by have := HZ.out; simp; omega)).mono ?_
    rintro e w2 ⟨rfl, HE, hB⟩
    have hB := ((((Below.refl (w.heap.size + 1) wl).alloc (by have := HZ.out; omega) (.cells #[.int .i64 0] 47 (0, 0))).alloc (by have := HZ.out; simp; omega) (.cells #[.string s, .int .i64 0] 141 (0, 0))).trans hB)
    exact ⟨rfl, ⟨HE, hB⟩, HE.he.c, HE.he.f⟩
  rintro e w' ⟨rfl, w2, ⟨HE, hB⟩, rfl⟩
  dsimp only
  have hQ : w2.heap[w.heap.size]? = some (.cells #[.int .u64 0, .int .u64 0] 37 (0, 0)) := (hB.block _ (by have := HZ.out; omega)).trans K0.out
  have kv : Blk (w2.setCell ⟨wl.heap.size, 0, none⟩ (.int .i64 0)) _ _ _ := HE.hv.far (by have := HZ.out; omega)
  have ka : (w2.setCell ⟨wl.heap.size, 0, none⟩ (.int .i64 0)).heap[w.heap.size + 1]? = _ := blk_far HE.ha (p := ⟨wl.heap.size, 0, none⟩) (by show w.heap.size + 1 ≠ wl.heap.size; have := HZ.out; omega) _
  have k0 : (w2.setCell ⟨wl.heap.size, 0, none⟩ (.int .i64 0)).heap[w.heap.size]? = some (.cells #[.int .u64 0, .int .u64 0] 37 (0, 0)) := blk_far (hQ) (p := ⟨wl.heap.size, 0, none⟩) (by show w.heap.size ≠ wl.heap.size; have := HZ.out; omega) _
  have kb := (HB.out.trans (hB.mono (Nat.le_succ _))).setCell (p := ⟨wl.heap.size, 0, none⟩) (show w.heap.size ≤ wl.heap.size by have := HZ.out; omega) (.int .i64 0)
  revert kv ka k0 kb
  generalize w2.setCell ⟨wl.heap.size, 0, none⟩ (.int .i64 0) = wq
  intro kv ka k0 kb
  have d0 : wq.cell? ⟨w.heap.size + 1, 0, none⟩ = some (.int .u64 h) := (blk_cell ka 0).trans rfl
  have d1 : wq.cell? ⟨w.heap.size + 1, 1, none⟩ = some (.int .u64 l) := (blk_cell ka 1).trans rfl
  have e0 : wq.cell? ⟨w.heap.size, 0, none⟩ = some (.int .u64 0) := (blk_cell k0 0).trans rfl
  have e1 : wq.cell? ⟨w.heap.size, 1, none⟩ = some (.int .u64 0) := (blk_cell k0 1).trans rfl
  have f0 := blk_frozen k0 0; have f1 := blk_frozen k0 1; have dv := kv.c
  have KV := Lib.hid kv; have KA := Lib.hid ka; have K00 := Lib.hid k0; have KB := Lib.hid kb
  clear kv ka k0 kb hQ HE hB E HC HB HZ K0 K1 K2
  go_wp2
  exact bodyPost_ret (v := .tuple #[.agg #[.int .u64 0, .int .u64 0], .int .i64 0, .bool false]) (by simp [results, Try.results55, go_sem, loadVar, *]) rfl ⟨rfl, by first | exact (KB.out.setCell (p := ⟨w.heap.size, 0, none⟩) (Nat.le_refl _) _).setCell (p := ⟨w.heap.size, 1, none⟩) (Nat.le_refl _) _ | exact ((KB.out.setCell (p := ⟨w.heap.size, 0, none⟩) (Nat.le_refl _) _).setCell (p := ⟨w.heap.size, 1, none⟩) (Nat.le_refl _) _).drew | exact KB.out | exact KB.out.drew⟩
set_option maxRecDepth 100000 in
set_option maxHeartbeats 2000000 in
theorem of_bad (s : ByteArray) (w : World) (er : Int) (her : (er == 0) = false) (hclo : ∀ (n0 g bv ba be : Nat) (w : World), Env w n0 g bv ba be s 0 0 0 0 → n0 ≤ w.heap.size → Calls Try.prog 116 #[.pointer (some ⟨g, 0, none⟩), .pointer (some ⟨bv, 0, none⟩), .pointer (some ⟨ba, 0, none⟩)] w fun e w' => e = .panicked (up er) ∧ (∃ a v h l : Int, Env w' n0 g bv ba be s a v h l) ∧ Below n0 w w') :
    Calls Try.prog 55 #[.string s] w fun e w' => e = .returned (.tuple #[.agg #[.int .u64 0, .int .u64 0], .int .i64 0, .bool false]) ∧ Below w.heap.size w w' := by
  have hmf := hmf
  obtain ⟨k0, k1, k2, hb, hz⟩ := lay w
  have K0 := Lib.hid k0; have K1 := Lib.hid k1; have K2 := Lib.hid k2; have HB := Lib.hid hb; have HZ := Lib.hid hz; clear k0 k1 k2 hb hz
  have HC := Lib.hid hclo; clear hclo
  go_enter Try.func55, Try.ntmps55
  go_wp2_with (fail)
  revert K0 K1 K2 HB HZ
  generalize (((w.alloc (.cells #[.int .u64 0, .int .u64 0] 37 (0, 0))).alloc (.cells #[.int .u64 0, .int .u64 0] 37 (0, 0))).alloc (.cells #[.int .i64 0] 3 (0, 0))) = wl
  intro K0 K1 K2 HB HZ
  have E := Lib.hid (env_of s w.heap.size wl HZ.out K1.out K2.out)
  refine (try_up s 116 _ er wl (fun w' => (∃ a v h l : Int, Env w' (w.heap.size + 1) (wl.heap.size + 1) (w.heap.size + 1 + 1) (w.heap.size + 1) wl.heap.size s a v h l) ∧ Below (w.heap.size + 1) wl w') hent ?hc).mono ?_
  case hc =>
    refine (HC.out _ _ _ _ _ _ E.out (by have := HZ.out; simp; omega)).mono ?_
    rintro e w2 ⟨rfl, ⟨a, v, h, l, HE⟩, hB⟩
    have hB := ((((Below.refl (w.heap.size + 1) wl).alloc (by have := HZ.out; omega) (.cells #[.int .i64 0] 47 (0, 0))).alloc (by have := HZ.out; simp; omega) (.cells #[.string s, .int .i64 0] 141 (0, 0))).trans hB)
    exact ⟨rfl, ⟨⟨_, _, _, _, HE⟩, hB⟩, HE.he.c, HE.he.f⟩
  rintro e w' ⟨rfl, w2, ⟨⟨a, v, h, l, HE⟩, hB⟩, rfl⟩
  dsimp only
  have hQ : w2.heap[w.heap.size]? = some (.cells #[.int .u64 0, .int .u64 0] 37 (0, 0)) := (hB.block _ (by have := HZ.out; omega)).trans K0.out
  have kv : Blk ((w2.setCell ⟨wl.heap.size, 0, none⟩ (.int .i64 er)).alloc (.cells #[.int .i64 er] 139 (0, 0))) _ _ _ := blk_alloc (HE.hv.far (by have := HZ.out; omega)) _
  have ka : ((w2.setCell ⟨wl.heap.size, 0, none⟩ (.int .i64 er)).alloc (.cells #[.int .i64 er] 139 (0, 0))).heap[w.heap.size + 1]? = _ := blk_alloc (blk_far HE.ha (p := ⟨wl.heap.size, 0, none⟩) (by show w.heap.size + 1 ≠ wl.heap.size; have := HZ.out; omega) _) _
  have k0 : ((w2.setCell ⟨wl.heap.size, 0, none⟩ (.int .i64 er)).alloc (.cells #[.int .i64 er] 139 (0, 0))).heap[w.heap.size]? = some (.cells #[.int .u64 0, .int .u64 0] 37 (0, 0)) := blk_alloc (blk_far (hQ) (p := ⟨wl.heap.size, 0, none⟩) (by show w.heap.size ≠ wl.heap.size; have := HZ.out; omega) _) _
  have kb := ((HB.out.trans (hB.mono (Nat.le_succ _))).setCell (p := ⟨wl.heap.size, 0, none⟩) (show w.heap.size ≤ wl.heap.size by have := HZ.out; omega) (.int .i64 er)).alloc (by have := hB.size; have := HZ.out; simp; omega) (.cells #[.int .i64 er] 139 (0, 0))
  revert kv ka k0 kb
  generalize (w2.setCell ⟨wl.heap.size, 0, none⟩ (.int .i64 er)).alloc (.cells #[.int .i64 er] 139 (0, 0)) = wq
  intro kv ka k0 kb
  have e0 : wq.cell? ⟨w.heap.size, 0, none⟩ = some (.int .u64 0) := (blk_cell k0 0).trans rfl
  have e1 : wq.cell? ⟨w.heap.size, 1, none⟩ = some (.int .u64 0) := (blk_cell k0 1).trans rfl
  have f0 := blk_frozen k0 0; have f1 := blk_frozen k0 1; have dv := kv.c
  have KV := Lib.hid kv; have KA := Lib.hid ka; have K00 := Lib.hid k0; have KB := Lib.hid kb
  have her' : (er != 0) = true := by simpa using her
  clear kv ka k0 kb hQ HE hB E HC HB HZ K0 K1 K2
  go_wp2
  exact bodyPost_ret (v := .tuple #[.agg #[.int .u64 0, .int .u64 0], .int .i64 0, .bool false]) (by simp [results, Try.results55, go_sem, loadVar, *]) rfl ⟨rfl, by first | exact (KB.out.setCell (p := ⟨w.heap.size, 0, none⟩) (Nat.le_refl _) _).setCell (p := ⟨w.heap.size, 1, none⟩) (Nat.le_refl _) _ | exact ((KB.out.setCell (p := ⟨w.heap.size, 0, none⟩) (Nat.le_refl _) _).setCell (p := ⟨w.heap.size, 1, none⟩) (Nat.le_refl _) _).drew | exact KB.out | exact KB.out.drew⟩
/-- what inet.Of answers -/
def ov (s : ByteArray) : Int × Int × Int × Bool := if s.size = 4 then (0, nm s 0 4, 4, true) else if s.size = 16 then (nm s 0 8, nm s 8 8, 6, true) else (0, 0, 0, false)
theorem of_calls (s : ByteArray) (w : World) (hs : s.size < 4611686018427387904) :
    Calls Try.prog 55 #[.string s] w fun e w' => e = .returned (.tuple #[.agg #[.int .u64 (ov s).1, .int .u64 (ov s).2.1], .int .i64 (ov s).2.2.1, .bool (ov s).2.2.2]) ∧ Below w.heap.size w w' := by
  unfold ov
  by_cases h4 : s.size = 4
  · rw [if_pos h4]
    exact of_good s w 4 4 0 (nm s 0 4) rfl (fun n0 g bv ba be w E hn => clo4 n0 g bv ba be s w E hn h4)
  · rw [if_neg h4]
    by_cases h16 : s.size = 16
    · rw [if_pos h16]
      exact of_good s w 16 6 (nm s 0 8) (nm s 8 8) rfl (fun n0 g bv ba be w E hn => clo16 n0 g bv ba be s w E hn h16)
    · rw [if_neg h16]
      by_cases h0 : s.size = 0
      · exact of_zero s w 0 0 0 (fun n0 g bv ba be w E hn => clo0 n0 g bv ba be s w E hn h0)
      · exact of_bad s w 4 rfl (fun n0 g bv ba be w E hn => cloX n0 g bv ba be s w E hn (by omega) h4 h16 hs)
end Go.Proofs.Ytlnnghbbjbimoaa.InetOf
