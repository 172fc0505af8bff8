/- octets.Try by its contracts: the function ends well, or gives up with an error number. -/
import Derived.Test.YtlnnghbbjbimoaaProg
import Derived.WalkKit
import Derived.Test.YtlnnghbbjbimoaaWMore
import Derived.Defers
import Derived.Recover
import Derived.Lib.Hide
namespace Go.Proofs.Ytlnnghbbjbimoaa.Tries
open Go Go.RowKit Go.Proofs.YtlnnghbbjbimoaaW.PrintWords Go.Proofs.YtlnnghbbjbimoaaW.PrintLast Go.Proofs.YtlnnghbbjbimoaaW.PrintMore
set_option linter.unusedVariables false
set_option linter.unusedSimpArgs false

theorem hmf : ∀ (fn : Fn) (first cap : Array Value) (w : World), (Instr.makeFunc fn first cap).run Try.prog w = .ok (.func fn first cap) w := fun _ _ _ _ => rfl
set_option maxRecDepth 100000 in
set_option maxHeartbeats 2000000 in
/-- the deferred closure, where nothing was given up -/
theorem door_ok (g : Nat) (w : World) : CallsD Try.prog 107 #[.pointer (some ⟨g, 0, none⟩)] .returning w fun e u' w' => e = .returned (.tuple #[]) ∧ u' = .returning ∧ w' = w := by
  refine callsD_of_wpS Try.func107 rfl fun c₀ cs hu => ?_
  apply wpS_seq
  apply wpS_region
  simp [wpOpsS, go_sem, recoverD, hu, Try.ntmps107, Exit.thenS]
  refine wpS_of_wp ?_
  go_wp2
  cases c₀
  simp_all [bodyPostS, results, Try.results107]
set_option maxRecDepth 100000 in
set_option maxHeartbeats 2000000 in
/-- the deferred closure, where a reader gave up: the number goes into the result -/
theorem door_up (g : Nat) (x er : Int) (older : List PanicEntry) (w : World) (hc : w.cell? ⟨g, 0, none⟩ = some (.int .i64 x)) (hz : w.frozen? ⟨g, 0, none⟩ = false) :
    CallsD Try.prog 107 #[.pointer (some ⟨g, 0, none⟩)] (.panicking ({ v := .iface 139 (.agg #[.int .i64 er]), recovered := false } :: older)) w fun e u' w' => e = .returned (.tuple #[]) ∧ u' = .panicking ({ v := .iface 139 (.agg #[.int .i64 er]), recovered := true } :: older) ∧ w' = (w.setCell ⟨g, 0, none⟩ (.int .i64 er)).alloc (.cells #[.int .i64 er] 139) := by
  refine callsD_of_wpS Try.func107 rfl fun c₀ cs hu => ?_
  apply wpS_seq
  apply wpS_region
  simp [wpOpsS, go_sem, recoverD, hu, Try.ntmps107, Exit.thenS]
  refine wpS_of_wp ?_
  have hg := World.block_lt_of_cell? w _ hc
  have hg' : ¬ g = w.heap.size := by simp only at hg; omega
  have hta : ∀ (w : World), Sem.run Try.prog (Instr.typeAssert (.iface 139 (.agg #[.int .i64 er])) 20 139 true) w = .ok (.tuple #[.agg #[.int .i64 er], .bool true]) w := fun _ => by first | rfl | kernel_rfl | (simp [go_sem]; done)
  go_wp2
  cases c₀
  simp_all [bodyPostS, results, Try.results107]
set_option maxRecDepth 100000 in
set_option maxHeartbeats 2000000 in
theorem try_ok (s : ByteArray) (c : Nat) (cap : Array Value) (w : World) (R : World → Prop) (hent : ∀ (args : Array Value) (w : World), Sem.run Try.prog (callFunc c args) w = .ok (.enter c args) w)
    (hc : Calls Try.prog c (#[.pointer (some ⟨w.heap.size + 1, 0, none⟩)] ++ cap) ((w.alloc (.cells #[.int .i64 0] 47 (0, 0))).alloc (.cells #[.string s, .int .i64 0] 141 (0, 0))) fun e w' => e = .returned (.tuple #[]) ∧ R w' ∧ w'.cell? ⟨w.heap.size, 0, none⟩ = some (.int .i64 0) ∧ w'.frozen? ⟨w.heap.size, 0, none⟩ = false) :
    Calls Try.prog 48 #[.string s, .func (Fn.func c) #[] cap] w fun e w' => e = .returned (.int .i64 0) ∧ ∃ w2, R w2 ∧ w' = w2.setCell ⟨w.heap.size, 0, none⟩ (.int .i64 0) := by
  have hmf := hmf
  have hq : ∀ (w : World), (binOp .eql 75 (.func (Fn.func c) #[] cap) .nilFunc).run Try.prog w = .ok (.bool false) w := fun _ => by first | rfl | kernel_rfl | (simp [go_sem]; done)
  go_enter_defers Try.func48, Try.ntmps48
  go_wp2
  refine hc.mono ?_
  rintro e w2 ⟨rfl, hR, hcell, hfr⟩
  dsimp only
  go_wp2
  refine leaves_cons (f := 107) (args := #[.pointer (some ⟨w.heap.size, 0, none⟩)]) (by simp) (by simp [go_sem]) ?_
  refine (door_ok w.heap.size _).mono ?_
  rintro e u' w'' ⟨rfl, rfl, rfl⟩
  have hcs : (w2.setCell ⟨w.heap.size, 0, none⟩ (.int .i64 0)).cell? ⟨w.heap.size, 0, none⟩ = some (.int .i64 0) := by simp [hcell, go_sem]
  simp [Leaves, settle, results, Try.results48, go_sem, hcs]
  exact ⟨w2, hR, rfl⟩
set_option maxRecDepth 100000 in
set_option maxHeartbeats 2000000 in
/-- the function gives up: the number is the answer -/
theorem try_up (s : ByteArray) (c : Nat) (cap : Array Value) (er : Int) (w : World) (R : World → Prop) (hent : ∀ (args : Array Value) (w : World), Sem.run Try.prog (callFunc c args) w = .ok (.enter c args) w)
    (hc : Calls Try.prog c (#[.pointer (some ⟨w.heap.size + 1, 0, none⟩)] ++ cap) ((w.alloc (.cells #[.int .i64 0] 47 (0, 0))).alloc (.cells #[.string s, .int .i64 0] 141 (0, 0))) fun e w' => e = .panicked [{ v := .iface 139 (.agg #[.int .i64 er]), recovered := false }] ∧ R w' ∧ w'.cell? ⟨w.heap.size, 0, none⟩ = some (.int .i64 0) ∧ w'.frozen? ⟨w.heap.size, 0, none⟩ = false) :
    Calls Try.prog 48 #[.string s, .func (Fn.func c) #[] cap] w fun e w' => e = .returned (.int .i64 er) ∧ ∃ w2, R w2 ∧ w' = (w2.setCell ⟨w.heap.size, 0, none⟩ (.int .i64 er)).alloc (.cells #[.int .i64 er] 139) := by
  have hmf := hmf
  have hq : ∀ (w : World), (binOp .eql 75 (.func (Fn.func c) #[] cap) .nilFunc).run Try.prog w = .ok (.bool false) w := fun _ => by first | rfl | kernel_rfl | (simp [go_sem]; done)
  go_enter_defers Try.func48, Try.ntmps48
  go_wp2
  refine hc.mono ?_
  rintro e w2 ⟨rfl, hR, hcell, hfr⟩
  dsimp only
  refine leaves_cons (f := 107) (args := #[.pointer (some ⟨w.heap.size, 0, none⟩)]) (by simp) (by simp [go_sem]) ?_
  refine (door_up w.heap.size 0 er _ _ hcell hfr).mono ?_
  rintro e u' w'' ⟨rfl, rfl, rfl⟩
  have hlt := World.block_lt_of_cell? w2 _ hcell
  have hcs : (w2.setCell ⟨w.heap.size, 0, none⟩ (.int .i64 er)).cell? ⟨w.heap.size, 0, none⟩ = some (.int .i64 er) := World.cell?_setCell_same _ _ _ hcell
  have hca : ((w2.setCell ⟨w.heap.size, 0, none⟩ (.int .i64 er)).alloc (.cells #[.int .i64 er] 139)).cell? ⟨w.heap.size, 0, none⟩ = some (.int .i64 er) := (World.cell?_alloc_lt _ _ _ (by simpa using hlt)).trans hcs
  simp [Leaves, settle, results, Try.results48, go_sem, hcs, hca]
  first | done | exact ⟨w2, hR, rfl⟩
end Go.Proofs.Ytlnnghbbjbimoaa.Tries
