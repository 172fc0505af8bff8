/- Loads of whole structs, out of what a block holds. -/
import Derived.Test.YtlnnghbbjbimoaaWMore
import Derived.WalkKit
namespace Go.Proofs.Ytlnnghbbjbimoaa.Ld
open Go Go.RowKit Go.Proofs.YtlnnghbbjbimoaaW.PrintWords Go.Proofs.YtlnnghbbjbimoaaW.PrintLast Go.Proofs.YtlnnghbbjbimoaaW.PrintMore
theorem new_at (w : World) (o : Obj) (n : Nat) (h : w.heap.size = n) : (w.alloc o).heap[n]? = some o := h ▸ blk_new w o
theorem ldrow {P : Program} (t : TypeId) (d : TypeDesc) (cs : Array Value) (hu : P.underlying t = some d) (hd : (match d with | .struct _ | .array _ _ => true | _ => false) = true) (hi : (P.info? t).map (·.size) = some cs.size) (ρ : Operand → Value) (o : Oper) (x : Operand) (b : Nat) (hop : o.op = .load t x) (hρ : ρ x = .pointer (some ⟨b, 0, none⟩)) (w : World) (h : w.heap[b]? = some (.cells cs t (0, 0))) : (execOp ρ o).run P w = .ok (.value (.agg cs)) w := by
  have hl := run_loadVar_row (P := P) w b t t cs (0, 0) d h hu hd hi
  obtain ⟨dst, op, ty, pos, aft, gd⟩ := o
  subst hop
  unfold execOp
  simp only [hρ]
  have e : (Instr.loadAt t (.pointer (some ⟨b, 0, none⟩))).run P w = .ok (.agg cs) w := by
    unfold Instr.loadAt
    simp only [Instr.sureAddr]
    first | exact hl | (rw [Sem.run_bind]; exact hl) | (simp only [Sem.run_bind, Sem.run_pure, Result.andThen]; exact hl)
  simp only [Sem.run_bind, e, Result.andThen]
  rfl
end Go.Proofs.Ytlnnghbbjbimoaa.Ld
