/- ports.Of, walked. -/
import Derived.Test.YtlnnghbbjbimoaaPortsOf
namespace Go.Proofs.Ytlnnghbbjbimoaa.PortsOf
open Go Go.RowKit Go.Proofs.Ytlnnghbbjbimoaa.Reader Go.Proofs.Ytlnnghbbjbimoaa.Tries Go.Proofs.YtlnnghbbjbimoaaW.PrintWords Go.Proofs.YtlnnghbbjbimoaaW.PrintLast Go.Proofs.YtlnnghbbjbimoaaW.PrintMore
set_option linter.unusedVariables false
set_option linter.unusedSimpArgs false
theorem new_at (w : World) (o : Obj) (n : Nat) (h : w.heap.size = n) : (w.alloc o).heap[n]? = some o := h ▸ blk_new w o
theorem lay (p : Int) (s : ByteArray) (w : World) : Blk (((((w.alloc (.cells #[.int .i64 p] 3 (0, 0))).alloc (.cells #[.string s] 9 (0, 0))).alloc (.cells #[.int .i64 0] 3 (0, 0))).alloc (.cells #[.int .i64 0] 3 (0, 0))).alloc (.cells #[.nilFunc] 135 (0, 0))) (w.heap.size + 1 + 1 + 1 + 1) .nilFunc 135 ∧ Blk (((((w.alloc (.cells #[.int .i64 p] 3 (0, 0))).alloc (.cells #[.string s] 9 (0, 0))).alloc (.cells #[.int .i64 0] 3 (0, 0))).alloc (.cells #[.int .i64 0] 3 (0, 0))).alloc (.cells #[.nilFunc] 135 (0, 0))) (w.heap.size + 1 + 1 + 1) (.int .i64 0) 3 ∧ Blk (((((w.alloc (.cells #[.int .i64 p] 3 (0, 0))).alloc (.cells #[.string s] 9 (0, 0))).alloc (.cells #[.int .i64 0] 3 (0, 0))).alloc (.cells #[.int .i64 0] 3 (0, 0))).alloc (.cells #[.nilFunc] 135 (0, 0))) (w.heap.size + 1 + 1) (.int .i64 0) 3 ∧ Blk (((((w.alloc (.cells #[.int .i64 p] 3 (0, 0))).alloc (.cells #[.string s] 9 (0, 0))).alloc (.cells #[.int .i64 0] 3 (0, 0))).alloc (.cells #[.int .i64 0] 3 (0, 0))).alloc (.cells #[.nilFunc] 135 (0, 0))) (w.heap.size + 1) (.string s) 9 ∧ Blk (((((w.alloc (.cells #[.int .i64 p] 3 (0, 0))).alloc (.cells #[.string s] 9 (0, 0))).alloc (.cells #[.int .i64 0] 3 (0, 0))).alloc (.cells #[.int .i64 0] 3 (0, 0))).alloc (.cells #[.nilFunc] 135 (0, 0))) w.heap.size (.int .i64 p) 3 ∧ Below w.heap.size w (((((w.alloc (.cells #[.int .i64 p] 3 (0, 0))).alloc (.cells #[.string s] 9 (0, 0))).alloc (.cells #[.int .i64 0] 3 (0, 0))).alloc (.cells #[.int .i64 0] 3 (0, 0))).alloc (.cells #[.nilFunc] 135 (0, 0))) ∧ (((((w.alloc (.cells #[.int .i64 p] 3 (0, 0))).alloc (.cells #[.string s] 9 (0, 0))).alloc (.cells #[.int .i64 0] 3 (0, 0))).alloc (.cells #[.int .i64 0] 3 (0, 0))).alloc (.cells #[.nilFunc] 135 (0, 0))).heap.size = w.heap.size + 5 := by
  refine ⟨new_at _ _ _ (by simp), blk_alloc (new_at _ _ _ (by simp)) _, blk_alloc (blk_alloc (new_at _ _ _ (by simp)) _) _, blk_alloc (blk_alloc (blk_alloc (new_at _ _ _ (by simp)) _) _) _, blk_alloc (blk_alloc (blk_alloc (blk_alloc (blk_new w _) _) _) _) _, ?_, by simp⟩
  exact (((((Below.refl w.heap.size w).alloc (Nat.le_refl _) _).alloc (by simp) _).alloc (by simp; omega) _).alloc (by simp; omega) _).alloc (by simp; omega) _
theorem env_of (p : Int) (s : ByteArray) (n : Nat) (w : World) (hz : w.heap.size = n + 5) (k4 : Blk w (n + 1 + 1 + 1 + 1) (.func (Fn.func 91) #[] #[]) 135) (k3 : Blk w (n + 1 + 1 + 1) (.int .i64 0) 3) (k2 : Blk w (n + 1 + 1) (.int .i64 0) 3) (k1 : Blk w (n + 1) (.string s) 9) (k0 : Blk w n (.int .i64 p) 3) :
    Env ((w.alloc (.cells #[.int .i64 0] 47 (0, 0))).alloc (.cells #[.string s, .int .i64 0] 141 (0, 0))) n (w.heap.size + 1) (n + 1) n (n + 1 + 1 + 1 + 1) (n + 1 + 1) (n + 1 + 1 + 1) w.heap.size s p 0 0 0 := by
  refine ⟨new_at _ _ _ (by simp), blk_alloc (blk_alloc k1 _) _, blk_alloc (blk_alloc k0 _) _, blk_alloc (blk_alloc k4 _) _, blk_alloc (blk_alloc k2 _) _, blk_alloc (blk_alloc k3 _) _, blk_alloc (blk_new _ _) _, ?_, ?_⟩ <;> omega
set_option maxRecDepth 100000 in
theorem hent (args : Array Value) (w : World) : Sem.run Try.prog (callFunc 102 args) w = .ok (.enter 102 args) w := by first | rfl | kernel_rfl
set_option maxRecDepth 100000 in
set_option maxHeartbeats 2000000 in
theorem of_good (p : Int) (s : ByteArray) (w : World) (hp : decide (0 < lst p) = true) (x y a : Int) (hclo : ∀ (n0 g bs bp b2 b3 b4 be : Nat) (w : World), Env w n0 g bs bp b2 b3 b4 be s p 0 0 0 → n0 ≤ w.heap.size → Calls Try.prog 102 #[.pointer (some ⟨g, 0, none⟩), .pointer (some ⟨bs, 0, none⟩), .pointer (some ⟨bp, 0, none⟩), .pointer (some ⟨b2, 0, none⟩), .pointer (some ⟨b3, 0, none⟩), .pointer (some ⟨b4, 0, none⟩)] w fun e w' => e = .returned (.tuple #[]) ∧ Env w' n0 g bs bp b2 b3 b4 be s p a x y ∧ Below n0 w w') :
    Calls Try.prog 42 #[.int .i64 p, .string s] w fun e w' => e = .returned (.tuple #[.int .i64 x, .int .i64 y, .int .i64 0]) ∧ Below w.heap.size w w' := by
  have hmf := hmf
  obtain ⟨k4, k3, k2, k1, k0, hb, hz⟩ := lay p s w
  go_enter Try.func42, Try.ntmps42
  have K := Lib.hid k4; have M := Lib.hid (And.intro k3 (And.intro k2 (And.intro k1 (And.intro k0 (And.intro hb hz))))); clear k4 k3 k2 k1 k0 hb hz
  have HC := Lib.hid hclo; clear hclo
  go_wp2_with (first | (go_at_call 45; go_in) | (go_at_call 44; refine (least_ok p _).mono ?_; rintro e w1 ⟨rfl, rfl⟩))
  rw [run_store Try.prog _ _ _ _ rfl]
  simp only [K.out.c, K.out.f, Bool.false_eq_true, if_false]
  obtain ⟨k3, k2, k1, k0, hb, hz⟩ := M.out
  have k4 : Blk ((((((w.alloc (.cells #[.int .i64 p] 3 (0, 0))).alloc (.cells #[.string s] 9 (0, 0))).alloc (.cells #[.int .i64 0] 3 (0, 0))).alloc (.cells #[.int .i64 0] 3 (0, 0))).alloc (.cells #[.nilFunc] 135 (0, 0))).setCell ⟨w.heap.size + 1 + 1 + 1 + 1, 0, none⟩ (.func (Fn.func 91) #[] #[])) _ (.func (Fn.func 91) #[] #[]) _ := K.out.put
  have k3 : Blk ((((((w.alloc (.cells #[.int .i64 p] 3 (0, 0))).alloc (.cells #[.string s] 9 (0, 0))).alloc (.cells #[.int .i64 0] 3 (0, 0))).alloc (.cells #[.int .i64 0] 3 (0, 0))).alloc (.cells #[.nilFunc] 135 (0, 0))).setCell ⟨w.heap.size + 1 + 1 + 1 + 1, 0, none⟩ (.func (Fn.func 91) #[] #[])) _ _ _ := k3.far (by omega)
  have k2 : Blk ((((((w.alloc (.cells #[.int .i64 p] 3 (0, 0))).alloc (.cells #[.string s] 9 (0, 0))).alloc (.cells #[.int .i64 0] 3 (0, 0))).alloc (.cells #[.int .i64 0] 3 (0, 0))).alloc (.cells #[.nilFunc] 135 (0, 0))).setCell ⟨w.heap.size + 1 + 1 + 1 + 1, 0, none⟩ (.func (Fn.func 91) #[] #[])) _ _ _ := k2.far (by omega)
  have k1 : Blk ((((((w.alloc (.cells #[.int .i64 p] 3 (0, 0))).alloc (.cells #[.string s] 9 (0, 0))).alloc (.cells #[.int .i64 0] 3 (0, 0))).alloc (.cells #[.int .i64 0] 3 (0, 0))).alloc (.cells #[.nilFunc] 135 (0, 0))).setCell ⟨w.heap.size + 1 + 1 + 1 + 1, 0, none⟩ (.func (Fn.func 91) #[] #[])) _ _ _ := k1.far (by omega)
  have k0 : Blk ((((((w.alloc (.cells #[.int .i64 p] 3 (0, 0))).alloc (.cells #[.string s] 9 (0, 0))).alloc (.cells #[.int .i64 0] 3 (0, 0))).alloc (.cells #[.int .i64 0] 3 (0, 0))).alloc (.cells #[.nilFunc] 135 (0, 0))).setCell ⟨w.heap.size + 1 + 1 + 1 + 1, 0, none⟩ (.func (Fn.func 91) #[] #[])) _ _ _ := k0.far (by omega)
  have hb := hb.setCell (p := ⟨w.heap.size + 1 + 1 + 1 + 1, 0, none⟩) (show w.heap.size ≤ w.heap.size + 1 + 1 + 1 + 1 by omega) (.func (Fn.func 91) #[] #[])
  have hz : ((((((w.alloc (.cells #[.int .i64 p] 3 (0, 0))).alloc (.cells #[.string s] 9 (0, 0))).alloc (.cells #[.int .i64 0] 3 (0, 0))).alloc (.cells #[.int .i64 0] 3 (0, 0))).alloc (.cells #[.nilFunc] 135 (0, 0))).setCell ⟨w.heap.size + 1 + 1 + 1 + 1, 0, none⟩ (.func (Fn.func 91) #[] #[])).heap.size = w.heap.size + 5 := by simp
  clear K M
  revert k4 k3 k2 k1 k0 hb hz
  generalize (((((w.alloc (.cells #[.int .i64 p] 3 (0, 0))).alloc (.cells #[.string s] 9 (0, 0))).alloc (.cells #[.int .i64 0] 3 (0, 0))).alloc (.cells #[.int .i64 0] 3 (0, 0))).alloc (.cells #[.nilFunc] 135 (0, 0))).setCell ⟨w.heap.size + 1 + 1 + 1 + 1, 0, none⟩ (.func (Fn.func 91) #[] #[]) = wl
  clear k3 k2 k1 k0 hb hz
  intro k4 k3 k2 k1 k0 hb hz
  have E := Lib.hid (env_of p s w.heap.size wl hz k4 k3 k2 k1 k0)
  have c1 := k1.c
  have HB := Lib.hid hb; have HZ := Lib.hid hz
  clear k4 k3 k2 k1 k0 hb hz
  simp only [Result.andThen_ok]
  go_wp2_with (go_at_call 48; refine (try_ok s 102 _ wl (fun w' => Env w' w.heap.size (wl.heap.size + 1) (w.heap.size + 1) w.heap.size (w.heap.size + 1 + 1 + 1 + 1) (w.heap.size + 1 + 1) (w.heap.size + 1 + 1 + 1) wl.heap.size s p a x y ∧ Below w.heap.size wl w') hent ?hc).mono ?_)
  case hc =>
    refine (HC.out _ _ _ _ _ _ _ _ _ E.out (by have := HZ.out; simp; omega)).mono ?_
    rintro e w2 ⟨rfl, HE, hB⟩
    have hB := ((((Below.refl w.heap.size wl).alloc (by have := HZ.out; omega) (.cells #[.int .i64 0] 47 (0, 0))).alloc (by have := HZ.out; simp; omega) (.cells #[.string s, .int .i64 0] 141 (0, 0))).trans hB)
    exact ⟨rfl, ⟨HE, hB⟩, HE.he.c, HE.he.f⟩
  rintro e w' ⟨rfl, w2, ⟨hE, hB⟩, rfl⟩
  have k3 : Blk (w2.setCell ⟨wl.heap.size, 0, none⟩ (.int .i64 0)) _ _ _ := hE.h3.far (by have := HZ.out; omega)
  have k4 : Blk (w2.setCell ⟨wl.heap.size, 0, none⟩ (.int .i64 0)) _ _ _ := hE.h4.far (by have := HZ.out; omega)
  have kb := (HB.out.trans hB).setCell (p := ⟨wl.heap.size, 0, none⟩) (show w.heap.size ≤ wl.heap.size by have := HZ.out; omega) (.int .i64 0)
  revert k3 k4 kb
  generalize w2.setCell ⟨wl.heap.size, 0, none⟩ (.int .i64 0) = wq
  intro k3 k4 kb
  have d3 := k3.c; have e3 := k3.f; have d4 := k4.c; have e4 := k4.f
  have KB := Lib.hid kb; have K3 := Lib.hid k3; have K4 := Lib.hid k4
  clear hE hB kb E HC HB HZ c1 k3 k4
  go_wp2
  go_region_held3 (fun w' => w'.cell? ⟨w.heap.size + 1 + 1, 0, none⟩ = some (.int .i64 x) ∧ w'.cell? ⟨w.heap.size + 1 + 1 + 1, 0, none⟩ = some (.int .i64 y)) (first | assumption | (constructor <;> simp [*, go_sem]) | simp [*, go_sem]) (fail)
  rename_i hH
  obtain ⟨h1, h2⟩ := hH
  have KC := Lib.hid (((KB.out.setCell (p := ⟨w.heap.size + 1 + 1, 0, none⟩) (show w.heap.size ≤ w.heap.size + 1 + 1 by omega) (.int .i64 x)).setCell (p := ⟨w.heap.size + 1 + 1 + 1, 0, none⟩) (show w.heap.size ≤ w.heap.size + 1 + 1 + 1 by omega) (.int .i64 y)).drew)
  revert h1 h2 KC
  generalize ((wq.setCell ⟨w.heap.size + 1 + 1, 0, none⟩ (.int .i64 x)).setCell ⟨w.heap.size + 1 + 1 + 1, 0, none⟩ (.int .i64 y)).drew = wz
  intro h1 h2 KC
  go_wp2
  exact bodyPost_ret (v := .tuple #[.int .i64 x, .int .i64 y, .int .i64 0]) (by simp [results, Try.results42, go_sem, h1, h2]) rfl ⟨rfl, KC.out⟩
set_option maxRecDepth 100000 in
set_option maxHeartbeats 2000000 in
theorem of_bad (p : Int) (s : ByteArray) (w : World) (hp : decide (0 < lst p) = true) (er : Int) (her : (er == 0) = false) (hclo : ∀ (n0 g bs bp b2 b3 b4 be : Nat) (w : World), Env w n0 g bs bp b2 b3 b4 be s p 0 0 0 → n0 ≤ w.heap.size → Calls Try.prog 102 #[.pointer (some ⟨g, 0, none⟩), .pointer (some ⟨bs, 0, none⟩), .pointer (some ⟨bp, 0, none⟩), .pointer (some ⟨b2, 0, none⟩), .pointer (some ⟨b3, 0, none⟩), .pointer (some ⟨b4, 0, none⟩)] w fun e w' => e = .panicked (up er) ∧ (∃ a x y : Int, Env w' n0 g bs bp b2 b3 b4 be s p a x y) ∧ Below n0 w w') :
    Calls Try.prog 42 #[.int .i64 p, .string s] w fun e w' => e = .returned (.tuple #[.int .i64 0, .int .i64 0, .int .i64 er]) ∧ Below w.heap.size w w' := by
  have hmf := hmf
  obtain ⟨k4, k3, k2, k1, k0, hb, hz⟩ := lay p s w
  go_enter Try.func42, Try.ntmps42
  have K := Lib.hid k4; have M := Lib.hid (And.intro k3 (And.intro k2 (And.intro k1 (And.intro k0 (And.intro hb hz))))); clear k4 k3 k2 k1 k0 hb hz
  have HC := Lib.hid hclo; clear hclo
  go_wp2_with (first | (go_at_call 45; go_in) | (go_at_call 44; refine (least_ok p _).mono ?_; rintro e w1 ⟨rfl, rfl⟩))
  rw [run_store Try.prog _ _ _ _ rfl]
  simp only [K.out.c, K.out.f, Bool.false_eq_true, if_false]
  obtain ⟨k3, k2, k1, k0, hb, hz⟩ := M.out
  have k4 : Blk ((((((w.alloc (.cells #[.int .i64 p] 3 (0, 0))).alloc (.cells #[.string s] 9 (0, 0))).alloc (.cells #[.int .i64 0] 3 (0, 0))).alloc (.cells #[.int .i64 0] 3 (0, 0))).alloc (.cells #[.nilFunc] 135 (0, 0))).setCell ⟨w.heap.size + 1 + 1 + 1 + 1, 0, none⟩ (.func (Fn.func 91) #[] #[])) _ (.func (Fn.func 91) #[] #[]) _ := K.out.put
  have k3 : Blk ((((((w.alloc (.cells #[.int .i64 p] 3 (0, 0))).alloc (.cells #[.string s] 9 (0, 0))).alloc (.cells #[.int .i64 0] 3 (0, 0))).alloc (.cells #[.int .i64 0] 3 (0, 0))).alloc (.cells #[.nilFunc] 135 (0, 0))).setCell ⟨w.heap.size + 1 + 1 + 1 + 1, 0, none⟩ (.func (Fn.func 91) #[] #[])) _ _ _ := k3.far (by omega)
  have k2 : Blk ((((((w.alloc (.cells #[.int .i64 p] 3 (0, 0))).alloc (.cells #[.string s] 9 (0, 0))).alloc (.cells #[.int .i64 0] 3 (0, 0))).alloc (.cells #[.int .i64 0] 3 (0, 0))).alloc (.cells #[.nilFunc] 135 (0, 0))).setCell ⟨w.heap.size + 1 + 1 + 1 + 1, 0, none⟩ (.func (Fn.func 91) #[] #[])) _ _ _ := k2.far (by omega)
  have k1 : Blk ((((((w.alloc (.cells #[.int .i64 p] 3 (0, 0))).alloc (.cells #[.string s] 9 (0, 0))).alloc (.cells #[.int .i64 0] 3 (0, 0))).alloc (.cells #[.int .i64 0] 3 (0, 0))).alloc (.cells #[.nilFunc] 135 (0, 0))).setCell ⟨w.heap.size + 1 + 1 + 1 + 1, 0, none⟩ (.func (Fn.func 91) #[] #[])) _ _ _ := k1.far (by omega)
  have k0 : Blk ((((((w.alloc (.cells #[.int .i64 p] 3 (0, 0))).alloc (.cells #[.string s] 9 (0, 0))).alloc (.cells #[.int .i64 0] 3 (0, 0))).alloc (.cells #[.int .i64 0] 3 (0, 0))).alloc (.cells #[.nilFunc] 135 (0, 0))).setCell ⟨w.heap.size + 1 + 1 + 1 + 1, 0, none⟩ (.func (Fn.func 91) #[] #[])) _ _ _ := k0.far (by omega)
  have hb := hb.setCell (p := ⟨w.heap.size + 1 + 1 + 1 + 1, 0, none⟩) (show w.heap.size ≤ w.heap.size + 1 + 1 + 1 + 1 by omega) (.func (Fn.func 91) #[] #[])
  have hz : ((((((w.alloc (.cells #[.int .i64 p] 3 (0, 0))).alloc (.cells #[.string s] 9 (0, 0))).alloc (.cells #[.int .i64 0] 3 (0, 0))).alloc (.cells #[.int .i64 0] 3 (0, 0))).alloc (.cells #[.nilFunc] 135 (0, 0))).setCell ⟨w.heap.size + 1 + 1 + 1 + 1, 0, none⟩ (.func (Fn.func 91) #[] #[])).heap.size = w.heap.size + 5 := by simp
  clear K M
  revert k4 k3 k2 k1 k0 hb hz
  generalize (((((w.alloc (.cells #[.int .i64 p] 3 (0, 0))).alloc (.cells #[.string s] 9 (0, 0))).alloc (.cells #[.int .i64 0] 3 (0, 0))).alloc (.cells #[.int .i64 0] 3 (0, 0))).alloc (.cells #[.nilFunc] 135 (0, 0))).setCell ⟨w.heap.size + 1 + 1 + 1 + 1, 0, none⟩ (.func (Fn.func 91) #[] #[]) = wl
  clear k3 k2 k1 k0 hb hz
  intro k4 k3 k2 k1 k0 hb hz
  have E := Lib.hid (env_of p s w.heap.size wl hz k4 k3 k2 k1 k0)
  have c1 := k1.c
  have HB := Lib.hid hb; have HZ := Lib.hid hz
  clear k4 k3 k2 k1 k0 hb hz
  simp only [Result.andThen_ok]
  go_wp2_with (go_at_call 48; refine (try_up s 102 _ er wl (fun w' => (∃ a x y : Int, Env w' w.heap.size (wl.heap.size + 1) (w.heap.size + 1) w.heap.size (w.heap.size + 1 + 1 + 1 + 1) (w.heap.size + 1 + 1) (w.heap.size + 1 + 1 + 1) wl.heap.size s p a x y) ∧ Below w.heap.size wl w') hent ?hc).mono ?_)
  case hc =>
    refine (HC.out _ _ _ _ _ _ _ _ _ E.out (by have := HZ.out; simp; omega)).mono ?_
    rintro e w2 ⟨rfl, ⟨qa, qx, qy, HE⟩, hB⟩
    have hB := ((((Below.refl w.heap.size wl).alloc (by have := HZ.out; omega) (.cells #[.int .i64 0] 47 (0, 0))).alloc (by have := HZ.out; simp; omega) (.cells #[.string s, .int .i64 0] 141 (0, 0))).trans hB)
    exact ⟨rfl, ⟨⟨_, _, _, HE⟩, hB⟩, HE.he.c, HE.he.f⟩
  rintro e w' ⟨rfl, w2, ⟨⟨qa, x, y, hE⟩, hB⟩, rfl⟩
  have k3 : Blk ((w2.setCell ⟨wl.heap.size, 0, none⟩ (.int .i64 er)).alloc (.cells #[.int .i64 er] 139 (0, 0))) _ _ _ := blk_alloc (hE.h3.far (by have := HZ.out; omega)) _
  have k4 : Blk ((w2.setCell ⟨wl.heap.size, 0, none⟩ (.int .i64 er)).alloc (.cells #[.int .i64 er] 139 (0, 0))) _ _ _ := blk_alloc (hE.h4.far (by have := HZ.out; omega)) _
  have kb := ((HB.out.trans hB).setCell (p := ⟨wl.heap.size, 0, none⟩) (show w.heap.size ≤ wl.heap.size by have := HZ.out; omega) (.int .i64 er)).alloc (by have := hB.size; have := HZ.out; simp; omega) (.cells #[.int .i64 er] 139 (0, 0))
  revert k3 k4 kb
  generalize (w2.setCell ⟨wl.heap.size, 0, none⟩ (.int .i64 er)).alloc (.cells #[.int .i64 er] 139 (0, 0)) = wq
  intro k3 k4 kb
  have d3 := k3.c; have e3 := k3.f; have d4 := k4.c; have e4 := k4.f
  have KB := Lib.hid kb; have K3 := Lib.hid k3; have K4 := Lib.hid k4
  clear hE hB kb E HC HB HZ c1 k3 k4
  go_wp2
  have h1 := ((K3.out.put (u := .int .i64 0)).far (c := w.heap.size + 1 + 1 + 1) (i := 0) (u := .int .i64 0) (by omega)).c
  have h2 := ((K4.out.far (c := w.heap.size + 1 + 1) (i := 0) (u := .int .i64 0) (by omega)).put (u := .int .i64 0)).c
  exact bodyPost_ret (v := .tuple #[.int .i64 0, .int .i64 0, .int .i64 er]) (by simp [results, Try.results42, go_sem, h1, h2]) rfl ⟨rfl, (KB.out.setCell (p := ⟨w.heap.size + 1 + 1, 0, none⟩) (show w.heap.size ≤ w.heap.size + 1 + 1 by omega) (.int .i64 0)).setCell (p := ⟨w.heap.size + 1 + 1 + 1, 0, none⟩) (show w.heap.size ≤ w.heap.size + 1 + 1 + 1 by omega) (.int .i64 0)⟩
set_option maxRecDepth 100000 in
set_option maxHeartbeats 2000000 in
theorem of_none (p : Int) (s : ByteArray) (w : World) (hp : decide (0 < lst p) = false) :
    Calls Try.prog 42 #[.int .i64 p, .string s] w fun e w' => e = .returned (.tuple #[.int .i64 0, .int .i64 0, .int .i64 0]) ∧ Below w.heap.size w w' := by
  have k3 : Blk ((((w.alloc (.cells #[.int .i64 p] 3 (0, 0))).alloc (.cells #[.string s] 9 (0, 0))).alloc (.cells #[.int .i64 0] 3 (0, 0))).alloc (.cells #[.int .i64 0] 3 (0, 0))) (w.heap.size + 1 + 1) (.int .i64 0) 3 := blk_alloc (new_at _ _ _ (by simp)) _
  have k4 : Blk ((((w.alloc (.cells #[.int .i64 p] 3 (0, 0))).alloc (.cells #[.string s] 9 (0, 0))).alloc (.cells #[.int .i64 0] 3 (0, 0))).alloc (.cells #[.int .i64 0] 3 (0, 0))) (w.heap.size + 1 + 1 + 1) (.int .i64 0) 3 := new_at _ _ _ (by simp)
  have hb : Below w.heap.size w ((((w.alloc (.cells #[.int .i64 p] 3 (0, 0))).alloc (.cells #[.string s] 9 (0, 0))).alloc (.cells #[.int .i64 0] 3 (0, 0))).alloc (.cells #[.int .i64 0] 3 (0, 0))) := ((((Below.refl w.heap.size w).alloc (Nat.le_refl _) _).alloc (by simp) _).alloc (by simp; omega) _).alloc (by simp; omega) _
  have K3 := Lib.hid k3; have K4 := Lib.hid k4; have KB := Lib.hid hb; clear k3 k4 hb
  go_enter Try.func42, Try.ntmps42
  go_wp2_with (first | (go_at_call 45; go_in) | (go_at_call 44; refine (least_ok p _).mono ?_; rintro e w1 ⟨rfl, rfl⟩))
  have h1 := K3.out.c
  have h2 := K4.out.c
  exact bodyPost_ret (v := .tuple #[.int .i64 0, .int .i64 0, .int .i64 0]) (by simp [results, Try.results42, go_sem, h1, h2]) rfl ⟨rfl, KB.out⟩
/-- what ports.Of answers -/
def pv (p : Int) (s : ByteArray) : Int × Int × Int :=
  if p = 6 then (if s.size < 20 then (0, 0, 5) else if 20 ≤ nm s 12 1 / 16 * 4 ∧ nm s 12 1 / 16 * 4 ≤ s.size then (nm s 0 2, nm s 2 2, 0) else (0, 0, 23))
  else if p = 17 then (if s.size < 8 then (0, 0, 5) else if 8 ≤ nm s 4 2 ∧ nm s 4 2 ≤ s.size then (nm s 0 2, nm s 2 2, 0) else (0, 0, 6))
  else (0, 0, 0)
theorem of_calls (p : Int) (s : ByteArray) (w : World) (hs : s.size < 4611686018427387904) :
    Calls Try.prog 42 #[.int .i64 p, .string s] w fun e w' => e = .returned (.tuple #[.int .i64 (pv p s).1, .int .i64 (pv p s).2.1, .int .i64 (pv p s).2.2]) ∧ Below w.heap.size w w' := by
  unfold pv
  by_cases h6 : p = 6
  · subst h6
    simp only [if_true]
    by_cases hl : s.size < 20
    · rw [if_pos hl]
      exact of_bad 6 s w rfl 5 rfl (fun n0 g bs bp b2 b3 b4 be w E hn => clo_short n0 g bs bp b2 b3 b4 be s 6 w E hn hs (by show (s.size : Int) < 20; omega))
    · rw [if_neg hl]
      by_cases h8 : 20 ≤ nm s 12 1 / 16 * 4 ∧ nm s 12 1 / 16 * 4 ≤ s.size
      · rw [if_pos h8]
        exact of_good 6 s w rfl _ _ 13 (fun n0 g bs bp b2 b3 b4 be w E hn => clo_tcp n0 g bs bp b2 b3 b4 be s w E hn hs (by omega) h8)
      · rw [if_neg h8]
        refine of_bad 6 s w rfl 23 rfl (fun n0 g bs bp b2 b3 b4 be w E hn => ?_)
        by_cases h9 : nm s 12 1 / 16 * 4 < 20
        · exact clo_tcp_a n0 g bs bp b2 b3 b4 be s w E hn hs (by omega) h9
        · exact clo_tcp_b n0 g bs bp b2 b3 b4 be s w E hn hs (by omega) (by omega)
  · rw [if_neg h6]
    by_cases h7 : p = 17
    · subst h7
      simp only [if_true]
      by_cases hl : s.size < 8
      · rw [if_pos hl]
        exact of_bad 17 s w rfl 5 rfl (fun n0 g bs bp b2 b3 b4 be w E hn => clo_short n0 g bs bp b2 b3 b4 be s 17 w E hn hs (by show (s.size : Int) < 8; omega))
      · rw [if_neg hl]
        by_cases h8 : 8 ≤ nm s 4 2 ∧ nm s 4 2 ≤ s.size
        · rw [if_pos h8]
          exact of_good 17 s w rfl _ _ 6 (fun n0 g bs bp b2 b3 b4 be w E hn => clo_udp n0 g bs bp b2 b3 b4 be s w E hn hs (by omega) h8)
        · rw [if_neg h8]
          refine of_bad 17 s w rfl 6 rfl (fun n0 g bs bp b2 b3 b4 be w E hn => ?_)
          by_cases h9 : nm s 4 2 < 8
          · exact clo_udp_a n0 g bs bp b2 b3 b4 be s w E hn hs (by omega) h9
          · exact clo_udp_b n0 g bs bp b2 b3 b4 be s w E hn hs (by omega) (by omega)
    · rw [if_neg h7]
      exact of_none p s w (by unfold lst; rw [if_neg h6, if_neg h7]; rfl)
end Go.Proofs.Ytlnnghbbjbimoaa.PortsOf
