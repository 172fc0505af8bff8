/- A load of a whole struct out of the middle of a block, at execOp. -/
import Derived.Test.YtlnnghbbjbimoaaLd
import Derived.Deep.MidRow
namespace Go.Proofs.Ytlnnghbbjbimoaa.Ld
open Go Go.RowKit Go.Proofs.YtlnnghbbjbimoaaW.PrintWords Go.Proofs.YtlnnghbbjbimoaaW.PrintLast Go.Proofs.YtlnnghbbjbimoaaW.PrintMore
theorem ldmid {P : Program} (t : TypeId) (d : TypeDesc) (C : Array Value) (T : TypeId) (f n : Nat) (cs : Array Value) (hcs : (C.extract f (f + n)) = cs) (hu : P.underlying t = some d) (hd : (match d with | .struct _ | .array _ _ => true | _ => false) = true) (hi : (P.info? t).map (·.size) = some cs.size) (ρ : Operand → Value) (o : Oper) (x : Operand) (b : Nat) (hop : o.op = .load t x) (hρ : ρ x = .pointer (some ⟨b, f, none⟩)) (w : World) (h : w.heap[b]? = some (.cells C T (0, 0))) : (execOp ρ o).run P w = .ok (.value (.agg cs)) w := by
  have hr := World.rangeAt_of_block h f n
  rw [hcs] at hr
  have e := run_loadAt_mid (P := P) w b f t cs.toList d hr hu (by cases d <;> simp_all) (by rw [hi, Array.length_toList])
  obtain ⟨dst, op, ty, pos, aft, gd⟩ := o
  subst hop
  unfold execOp
  simp only [hρ, Sem.run_bind, e, Result.andThen]
  rfl
/-- a guarded load of a whole struct, where its guard holds (wpList_load_row wants no guard) -/
theorem load_rowG {P : Program} {ops : Array Oper} {rest : List Oper} {o : Oper} {a : Act} {w : World} {Q : Exit → Act → World → Prop} (hw : Region.wanted o (yielded ops a.tmps) = true) (ty : TypeId) (x : Operand) (ho : o.op = .load ty x)
    (g : Nat) (hx : a.eval x = .pointer (some ⟨g, 0, none⟩)) (t : TypeId) (cs : Array Value) (fr : Nat × Nat) (d : TypeDesc) (hg : w.heap[g]? = some (.cells cs t fr))
    (hu : P.underlying ty = some d) (hd : (match d with | .struct _ | .array _ _ => true | _ => false) = true) (hi : (P.info? ty).map (·.size) = some cs.size)
    (h : wpList P ops Q rest (a.put o.dst (.agg cs)) w) : wpList P ops Q (o :: rest) a w := by
  show (if Region.wanted o (yielded ops a.tmps) then _ else _)
  rw [if_pos hw]
  exact Or.inl (wp_load_row ty x ho g hx t cs fr d hg hu hd hi h)
end Go.Proofs.Ytlnnghbbjbimoaa.Ld
