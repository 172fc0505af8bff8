/- idle.Paced, walked. -/
import Derived.Test.YtclfambjkolckaaWTab
import Derived.Test.YtclfambjkolckaaWMore
import Derived.Lib.Hide
import Derived.LoopTactic
import Derived.OwnWalk
import Derived.Laws.MakeOwn
import Derived.Laws.Tables
import Derived.Laws.CopyOwn
import Derived.Great.BuildSlice
import Derived.Test.YtclfambjkolckaaLd
import Derived.Test.YtclfambjkolckaaProg
import Derived.Outline
namespace Go.Proofs.Ytclfambjkolckaa.Paced
open Go Go.RowKit Go.Proofs.Ytclfambjkolckaa.Ld Go.Proofs.YtclfambjkolckaaW.PrintWords Go.Proofs.YtclfambjkolckaaW.PrintLast Go.Proofs.YtclfambjkolckaaW.PrintMore
set_option linter.unusedVariables false
set_option linter.unusedSimpArgs false
theorem infoI : (Try.prog.info? 3).map (fun i => (i.zero, i.size, i.bytes)) = some (some (.int .i64 0), 1, 8) := by kernel_rfl
theorem info_s : (Try.prog.info? 99).map (·.size) = some 3 := by kernel_rfl
theorem info_c : (Try.prog.info? 95).map (·.size) = some 11 := by kernel_rfl
theorem copyTo {P : Program} {w : World} {ops : Array Oper} {rest : List Oper} {o : Oper} {a : Act} {Q : Exit → Act → World → Prop} (hgd : o.guard = none) (d s : Operand) (dT sT : TypeId)
    (ho : o.op = .call { callee := .builtin .copy, args := #[d, s], argTypes := #[dT, sT] }) (elem : TypeId) (hu : P.underlying dT = some (.slice elem)) (hsz : (P.info? elem).map (·.size) = some 1)
    (g off dLen dCap : Nat) (ad : Addr) (sLen sCap : Nat) (hd : a.eval d = .slice (some ⟨g, off, none⟩) dLen dCap) (hs : a.eval s = .slice (some ad) sLen sCap)
    (cur : Array Value) (t : TypeId) (hg : w.heap[g]? = some (.cells cur t (0, 0))) (cs : List Value) (hn : cs.length = Nat.min sLen dLen)
    (hsrc : ∀ j v, cs[j]? = some v → w.cell? (ad.add j) = some v) (hfit : off + cs.length ≤ cur.size) (h1 : ∀ v ∈ cs, v.oneCell' = true)
    (R : Array Value) (hR : (cur.toList.take off ++ (cs ++ cur.toList.drop (off + cs.length))).toArray = R)
    (h : wpList P ops Q rest (a.put o.dst (goInt cs.length)) (w.setRow g R)) : wpList P ops Q (o :: rest) a w := by
  subst hR
  exact wpList_copy_own hgd d s dT sT ho elem hu hsz g off dLen dCap ad sLen sCap hd hs cur t hg cs hn hsrc hfit h1 h
def mkz (n : Nat) : Array Value := madeCells (Value.int .i64 0).cells (n * 1)
theorem madeZ (n : Nat) : (mkz n).size = n := by unfold mkz; rw [size_madeCells, Nat.mul_one]
def ivs (l : List Int) : List Value := l.map (Value.int .i64)
theorem rowE (l : List Int) : ((mkz l.length).toList.take 0 ++ (ivs l ++ (mkz l.length).toList.drop (0 + (ivs l).length))).toArray = (ivs l).toArray := by
  congr 1
  have : (mkz l.length).toList.drop (0 + (ivs l).length) = [] := List.drop_eq_nil_of_le (by rw [Array.length_toList, madeZ]; simp [ivs])
  rw [this]; simp
/-- the state behind the first ones -/
def fst (F : Int × Int × Int → Int → Int × Int × Int) (s : Int × Int × Int) (l : List Int) : Int × Int × Int := l.foldl F s
theorem fst_snoc (F : Int × Int × Int → Int → Int × Int × Int) (s : Int × Int × Int) (l : List Int) (k : Nat) (h : k < l.length) : fst F s (l.take (k + 1)) = F (fst F s (l.take k)) (l.getD k 0) := by
  unfold fst
  rw [List.take_succ_eq_append_getElem h, List.foldl_append, List.getD_eq_getElem?_getD, List.getElem?_eq_getElem h]; rfl
theorem ivs_at (l : List Int) (k : Nat) (h : k < l.length) : (ivs l).toArray[k]? = some (.int .i64 (l.getD k 0)) := by
  unfold ivs
  rw [List.getElem?_toArray, List.getElem?_map, List.getD_eq_getElem?_getD, List.getElem?_eq_getElem h]; rfl
theorem ivs_one (l : List Int) : ∀ v ∈ ivs l, v.oneCell' = true := by
  intro v hv; unfold ivs at hv; obtain ⟨x, _, rfl⟩ := List.mem_map.1 hv; rfl
set_option maxRecDepth 100000 in
set_option maxHeartbeats 4000000 in
theorem paced_calls (F : Int × Int × Int → Int → Int × Int × Int) (s : Int × Int × Int) (c0 c1 : Int) (c2 : Nat) (c3 c4 c5 c6 c7 c8 : Int) (c9 c10 : Bool) (time : Int) (a : Option Addr) (l : List Int) (cap : Nat) (w : World) (hlen : l.length ≤ 50) (hr : Kd.C (Kd.int .i64) w a l.length l)
    (hs : ∀ (s : Int × Int × Int) (now : Int) (w : World), Calls Try.prog 89 #[.agg #[.int .i64 (s).1, .int .i64 (s).2.1, .int .i64 (s).2.2], .agg #[.int .i64 c0, .int .i64 c1, .float .f64 c2, .int .i64 c3, .int .i64 c4, .int .i64 c5, .int .i64 c6, .int .i64 c7, .int .i64 c8, .bool c9, .bool c10], .int .i64 time, .int .i64 now] w fun e w' => e = .returned (.agg #[.int .i64 (F s now).1, .int .i64 (F s now).2.1, .int .i64 (F s now).2.2]) ∧ Below w.heap.size w w') :
    Calls Try.prog 94 #[.agg #[.int .i64 (s).1, .int .i64 (s).2.1, .int .i64 (s).2.2], .agg #[.int .i64 c0, .int .i64 c1, .float .f64 c2, .int .i64 c3, .int .i64 c4, .int .i64 c5, .int .i64 c6, .int .i64 c7, .int .i64 c8, .bool c9, .bool c10], .int .i64 time, .slice a l.length cap] w fun e w' => e = .returned (.agg #[.int .i64 (fst F s l).1, .int .i64 (fst F s l).2.1, .int .i64 (fst F s l).2.2]) ∧ Below w.heap.size w w' := by
  have HS := Lib.hid hs; have HR := Lib.hid hr; clear hs hr
  obtain ⟨i0, hi, hz0, hz1, hz2⟩ := info_parts infoI
  have HMK := Lib.hid (fun w => (run_make (P := Try.prog) w 47 3 i0 (.int .i64 0) Try.underlying47 hi hz0 .i64 .i64 (l.length : Int) (l.length : Int) (by omega) (by omega) (by rw [hz2]; omega) (by omega)))
  rw [Int.toNat_natCast, hz1] at HMK
  have HMK : Hid (∀ w, Sem.run Try.prog (Instr.makeSlice 47 (.int .i64 (l.length : Int)) (.int .i64 (l.length : Int))) w = .ok (.slice (some ⟨w.heap.size, 0, none⟩) l.length l.length) (w.alloc (.cells (mkz l.length) 3))) := HMK
  have hsz := fst_snoc F s l
  have HN := Lib.hid hsz; clear hsz
  by_cases h0 : l.length = 0
  · have hl : l = [] := List.eq_nil_of_length_eq_zero h0
    subst hl
    have hmk : ∀ w, Sem.run Try.prog (Instr.makeSlice 47 (.int .i64 0) (.int .i64 0)) w = .ok (.slice (some ⟨w.heap.size, 0, none⟩) 0 0) (w.alloc (.cells (mkz 0) 3)) := fun w => HMK.out w
    clear HMK HN HR
    show Calls Try.prog 94 #[.agg #[.int .i64 (s).1, .int .i64 (s).2.1, .int .i64 (s).2.2], .agg #[.int .i64 c0, .int .i64 c1, .float .f64 c2, .int .i64 c3, .int .i64 c4, .int .i64 c5, .int .i64 c6, .int .i64 c7, .int .i64 c8, .bool c9, .bool c10], .int .i64 time, .slice a 0 cap] w fun e w' => e = .returned (.agg #[.int .i64 (s).1, .int .i64 (s).2.1, .int .i64 (s).2.2]) ∧ Below w.heap.size w w'
    go_enter Try.func94, Try.ntmps94
    go_wp2_with (refine wpList_copy_nothing rfl (.tmp 15) (.tmp 16) 47 47 rfl 3 Try.underlying47 (by kernel_rfl) _ _ _ _ _ _ rfl rfl (by rfl) ?_)
    have KsW : Hid (((((w.alloc (.cells #[.int .i64 (s).1, .int .i64 (s).2.1, .int .i64 (s).2.2] 99 (0, 0))).alloc (.cells #[.int .i64 c0, .int .i64 c1, .float .f64 c2, .int .i64 c3, .int .i64 c4, .int .i64 c5, .int .i64 c6, .int .i64 c7, .int .i64 c8, .bool c9, .bool c10] 95 (0, 0))).alloc (.cells #[.int .i64 0, .int .i64 0, .int .i64 0] 99 (0, 0))).alloc (.cells (mkz 0) 3)).heap[w.heap.size]? = some (.cells #[.int .i64 (s).1, .int .i64 (s).2.1, .int .i64 (s).2.2] 99 (0, 0))) := Lib.hid (blk_alloc (blk_alloc (blk_alloc (blk_new w _) _) _) _)
    have KzW : Hid (((((w.alloc (.cells #[.int .i64 (s).1, .int .i64 (s).2.1, .int .i64 (s).2.2] 99 (0, 0))).alloc (.cells #[.int .i64 c0, .int .i64 c1, .float .f64 c2, .int .i64 c3, .int .i64 c4, .int .i64 c5, .int .i64 c6, .int .i64 c7, .int .i64 c8, .bool c9, .bool c10] 95 (0, 0))).alloc (.cells #[.int .i64 0, .int .i64 0, .int .i64 0] 99 (0, 0))).alloc (.cells (mkz 0) 3)).heap[w.heap.size + 2]? = some (.cells #[.int .i64 0, .int .i64 0, .int .i64 0] 99 (0, 0))) := Lib.hid (blk_alloc (new_at _ _ _ (by simp)) _)
    have BBW : Hid (Below w.heap.size w ((((w.alloc (.cells #[.int .i64 (s).1, .int .i64 (s).2.1, .int .i64 (s).2.2] 99 (0, 0))).alloc (.cells #[.int .i64 c0, .int .i64 c1, .float .f64 c2, .int .i64 c3, .int .i64 c4, .int .i64 c5, .int .i64 c6, .int .i64 c7, .int .i64 c8, .bool c9, .bool c10] 95 (0, 0))).alloc (.cells #[.int .i64 0, .int .i64 0, .int .i64 0] 99 (0, 0))).alloc (.cells (mkz 0) 3))) := Lib.hid ((((Below.refl w.heap.size w).alloc (Nat.le_refl _) _).alloc (by simp) _).alloc (by simp; omega) _ |>.alloc (by simp; omega) _)
    revert KsW KzW BBW
    generalize ((((w.alloc (.cells #[.int .i64 (s).1, .int .i64 (s).2.1, .int .i64 (s).2.2] 99 (0, 0))).alloc (.cells #[.int .i64 c0, .int .i64 c1, .float .f64 c2, .int .i64 c3, .int .i64 c4, .int .i64 c5, .int .i64 c6, .int .i64 c7, .int .i64 c8, .bool c9, .bool c10] 95 (0, 0))).alloc (.cells #[.int .i64 0, .int .i64 0, .int .i64 0] 99 (0, 0))).alloc (.cells (mkz 0) 3)) = w0
    intro KsW KzW BBW
    clear hmk
    go_wp2
    go_loopw [20] (fun i wr => i = .int .i64 0 ∧ Hid (wr.heap[w.heap.size]? = some (.cells #[.int .i64 (s).1, .int .i64 (s).2.1, .int .i64 (s).2.2] 99 (0, 0))) ∧ Hid (wr.heap[w.heap.size + 2]? = some (.cells #[.int .i64 0, .int .i64 0, .int .i64 0] 99 (0, 0))) ∧ Hid (Below w.heap.size w wr)) (fun i _ => 0)
    case atStart => exact ⟨rfl, KsW, KzW, BBW⟩
    case round =>
      obtain ⟨rfl, Ks, Kz, BB⟩ := hrel
      go_wp2_with (first | ((with_reducible refine gate_dst (N := 30) rfl ?_); refine wpList_load_row rfl 99 (.tmp 4) rfl (w.heap.size) rfl 99 #[.int .i64 (s).1, .int .i64 (s).2.1, .int .i64 (s).2.2] (0, 0) _ Ks.out Try.underlying99 rfl info_s ?_) | (refine wpList_store_rowTo rfl 99 (.tmp 8) (.tmp 30) rfl rfl (w.heap.size + 2) #[.int .i64 (s).1, .int .i64 (s).2.1, .int .i64 (s).2.2] rfl rfl 99 #[.int .i64 0, .int .i64 0, .int .i64 0] Kz.out info_s rfl (by simp [Value.oneCell']) ?_))
      have hrow : (wr.setRow (w.heap.size + 2) #[.int .i64 (s).1, .int .i64 (s).2.1, .int .i64 (s).2.2]).heap[w.heap.size + 2]? = some (.cells #[.int .i64 (s).1, .int .i64 (s).2.1, .int .i64 (s).2.2] 99 (0, 0)) := setRow_heap _ _ _ _ 99 _ Kz.out
      have hld := run_loadVar_row (P := Try.prog) (wr.setRow (w.heap.size + 2) #[.int .i64 (s).1, .int .i64 (s).2.1, .int .i64 (s).2.2]) (w.heap.size + 2) 99 99 #[.int .i64 (s).1, .int .i64 (s).2.1, .int .i64 (s).2.2] (0, 0) _ hrow Try.underlying99 rfl (by kernel_rfl)
      exact bodyPost_ret (v := .agg #[.int .i64 (s).1, .int .i64 (s).2.1, .int .i64 (s).2.2]) (by simp [results, Try.results94, Act.put, asAddr, hld]) rfl ⟨rfl, below_setRow BB.out (by omega) _⟩
  · obtain ⟨ad, hA, -⟩ := Kd.at_int HR.out 0 (by omega) (by omega)
    subst hA
    have hsrc : ∀ j v, (ivs l)[j]? = some v → w.cell? (ad.add j) = some v := by
      intro j v hj
      have hlt : j < l.length := by
        have := (List.getElem?_eq_some_iff.1 hj).1
        unfold ivs at this; rwa [List.length_map] at this
      obtain ⟨ad', e, hc⟩ := Kd.at_int HR.out (j : Int) (by omega) (by omega)
      obtain rfl := Option.some.inj e
      rw [Int.toNat_natCast] at hc
      have hv : (ivs l)[j]? = some (.int .i64 (l.getD j 0)) := by have := ivs_at l j hlt; rwa [List.getElem?_toArray] at this
      rw [hv] at hj
      obtain rfl := Option.some.inj hj
      exact hc
    have HSRC := Lib.hid hsrc; clear hsrc
    go_enter Try.func94, Try.ntmps94
    have hmk := HMK.out
    go_wp2_with (refine copyTo rfl (.tmp 15) (.tmp 16) 47 47 rfl 3 Try.underlying47 (by kernel_rfl) (w.heap.size + 3) 0 l.length l.length ad l.length cap rfl rfl (mkz l.length) 3 ?c0 (ivs l) ?c1 ?c2 ?c3 (ivs_one l) (ivs l).toArray (rowE l) ?_)
    case c0 => exact new_at (((w.alloc (.cells #[.int .i64 (s).1, .int .i64 (s).2.1, .int .i64 (s).2.2] 99 (0, 0))).alloc (.cells #[.int .i64 c0, .int .i64 c1, .float .f64 c2, .int .i64 c3, .int .i64 c4, .int .i64 c5, .int .i64 c6, .int .i64 c7, .int .i64 c8, .bool c9, .bool c10] 95 (0, 0))).alloc (.cells #[.int .i64 0, .int .i64 0, .int .i64 0] 99 (0, 0))) _ (w.heap.size + 3) (by simp)
    case c1 => simp [ivs]
    case c2 => intro j v hj; exact pw_cell_below ((((Below.refl w.heap.size w).alloc (Nat.le_refl _) _).alloc (by simp) _).alloc (by simp; omega) _ |>.alloc (by simp; omega) _) (HSRC.out j v hj)
    case c3 => rw [madeZ]; simp [ivs]
    have KsW : Hid ((((((w.alloc (.cells #[.int .i64 (s).1, .int .i64 (s).2.1, .int .i64 (s).2.2] 99 (0, 0))).alloc (.cells #[.int .i64 c0, .int .i64 c1, .float .f64 c2, .int .i64 c3, .int .i64 c4, .int .i64 c5, .int .i64 c6, .int .i64 c7, .int .i64 c8, .bool c9, .bool c10] 95 (0, 0))).alloc (.cells #[.int .i64 0, .int .i64 0, .int .i64 0] 99 (0, 0))).alloc (.cells (mkz l.length) 3)).setRow (w.heap.size + 3) (ivs l).toArray).heap[w.heap.size]? = some (.cells #[.int .i64 (s).1, .int .i64 (s).2.1, .int .i64 (s).2.2] 99 (0, 0))) := Lib.hid ((setRow_other _ _ _ _ (by omega)).trans (blk_alloc (blk_alloc (blk_alloc (blk_new w _) _) _) _))
    have KcW : Hid ((((((w.alloc (.cells #[.int .i64 (s).1, .int .i64 (s).2.1, .int .i64 (s).2.2] 99 (0, 0))).alloc (.cells #[.int .i64 c0, .int .i64 c1, .float .f64 c2, .int .i64 c3, .int .i64 c4, .int .i64 c5, .int .i64 c6, .int .i64 c7, .int .i64 c8, .bool c9, .bool c10] 95 (0, 0))).alloc (.cells #[.int .i64 0, .int .i64 0, .int .i64 0] 99 (0, 0))).alloc (.cells (mkz l.length) 3)).setRow (w.heap.size + 3) (ivs l).toArray).heap[w.heap.size + 1]? = some (.cells #[.int .i64 c0, .int .i64 c1, .float .f64 c2, .int .i64 c3, .int .i64 c4, .int .i64 c5, .int .i64 c6, .int .i64 c7, .int .i64 c8, .bool c9, .bool c10] 95 (0, 0))) := Lib.hid ((setRow_other _ _ _ _ (by omega)).trans (blk_alloc (blk_alloc (new_at _ _ _ (by simp)) _) _))
    have KzW : Hid ((((((w.alloc (.cells #[.int .i64 (s).1, .int .i64 (s).2.1, .int .i64 (s).2.2] 99 (0, 0))).alloc (.cells #[.int .i64 c0, .int .i64 c1, .float .f64 c2, .int .i64 c3, .int .i64 c4, .int .i64 c5, .int .i64 c6, .int .i64 c7, .int .i64 c8, .bool c9, .bool c10] 95 (0, 0))).alloc (.cells #[.int .i64 0, .int .i64 0, .int .i64 0] 99 (0, 0))).alloc (.cells (mkz l.length) 3)).setRow (w.heap.size + 3) (ivs l).toArray).heap[w.heap.size + 2]? = some (.cells #[.int .i64 0, .int .i64 0, .int .i64 0] 99 (0, 0))) := Lib.hid ((setRow_other _ _ _ _ (by omega)).trans (blk_alloc (new_at _ _ _ (by simp)) _))
    have KoW : Hid ((((((w.alloc (.cells #[.int .i64 (s).1, .int .i64 (s).2.1, .int .i64 (s).2.2] 99 (0, 0))).alloc (.cells #[.int .i64 c0, .int .i64 c1, .float .f64 c2, .int .i64 c3, .int .i64 c4, .int .i64 c5, .int .i64 c6, .int .i64 c7, .int .i64 c8, .bool c9, .bool c10] 95 (0, 0))).alloc (.cells #[.int .i64 0, .int .i64 0, .int .i64 0] 99 (0, 0))).alloc (.cells (mkz l.length) 3)).setRow (w.heap.size + 3) (ivs l).toArray).heap[w.heap.size + 3]? = some (.cells (ivs l).toArray 3 (0, 0))) := Lib.hid (setRow_heap ((((w.alloc (.cells #[.int .i64 (s).1, .int .i64 (s).2.1, .int .i64 (s).2.2] 99 (0, 0))).alloc (.cells #[.int .i64 c0, .int .i64 c1, .float .f64 c2, .int .i64 c3, .int .i64 c4, .int .i64 c5, .int .i64 c6, .int .i64 c7, .int .i64 c8, .bool c9, .bool c10] 95 (0, 0))).alloc (.cells #[.int .i64 0, .int .i64 0, .int .i64 0] 99 (0, 0))).alloc (.cells (mkz l.length) 3)) (w.heap.size + 3) _ _ 3 (0, 0) (new_at _ _ _ (by simp)))
    have BBW : Hid (Below w.heap.size w (((((w.alloc (.cells #[.int .i64 (s).1, .int .i64 (s).2.1, .int .i64 (s).2.2] 99 (0, 0))).alloc (.cells #[.int .i64 c0, .int .i64 c1, .float .f64 c2, .int .i64 c3, .int .i64 c4, .int .i64 c5, .int .i64 c6, .int .i64 c7, .int .i64 c8, .bool c9, .bool c10] 95 (0, 0))).alloc (.cells #[.int .i64 0, .int .i64 0, .int .i64 0] 99 (0, 0))).alloc (.cells (mkz l.length) 3)).setRow (w.heap.size + 3) (ivs l).toArray)) := Lib.hid (below_setRow ((((Below.refl w.heap.size w).alloc (Nat.le_refl _) _).alloc (by simp) _).alloc (by simp; omega) _ |>.alloc (by simp; omega) _) (by omega) _)
    revert KsW KcW KzW KoW BBW
    generalize (((((w.alloc (.cells #[.int .i64 (s).1, .int .i64 (s).2.1, .int .i64 (s).2.2] 99 (0, 0))).alloc (.cells #[.int .i64 c0, .int .i64 c1, .float .f64 c2, .int .i64 c3, .int .i64 c4, .int .i64 c5, .int .i64 c6, .int .i64 c7, .int .i64 c8, .bool c9, .bool c10] 95 (0, 0))).alloc (.cells #[.int .i64 0, .int .i64 0, .int .i64 0] 99 (0, 0))).alloc (.cells (mkz l.length) 3)).setRow (w.heap.size + 3) (ivs l).toArray) = w0
    intro KsW KcW KzW KoW BBW
    clear HSRC
    go_wp2
    go_loopw [20] (fun i wr => ∃ k : Nat, k ≤ l.length ∧ i = .int .i64 k ∧ Hid (wr.heap[w.heap.size]? = some (.cells #[.int .i64 (fst F s (l.take k)).1, .int .i64 (fst F s (l.take k)).2.1, .int .i64 (fst F s (l.take k)).2.2] 99 (0, 0))) ∧ Hid (wr.heap[w.heap.size + 1]? = some (.cells #[.int .i64 c0, .int .i64 c1, .float .f64 c2, .int .i64 c3, .int .i64 c4, .int .i64 c5, .int .i64 c6, .int .i64 c7, .int .i64 c8, .bool c9, .bool c10] 95 (0, 0))) ∧ Hid (wr.heap[w.heap.size + 2]? = some (.cells #[.int .i64 0, .int .i64 0, .int .i64 0] 99 (0, 0))) ∧ Hid (wr.heap[w.heap.size + 3]? = some (.cells (ivs l).toArray 3 (0, 0))) ∧ Hid (Below w.heap.size w wr)) (fun i _ => l.length - (intOf i).toNat)
    case atStart => exact ⟨0, by omega, rfl, KsW, KcW, KzW, KoW, BBW⟩
    case round =>
      obtain ⟨k, hk, rfl, Ks, Kc, Kz, Ko, BB⟩ := hrel
      by_cases hlt : k < l.length
      · have HNk := Lib.hid (HN.out k hlt)
        have hc1 : wr.cell? ⟨w.heap.size + 3, k, none⟩ = some (.int .i64 (l.getD k 0)) := (blk_cell Ko.out k).trans (ivs_at l k hlt)
        generalize l.getD k 0 = x at hc1 HNk
        generalize hq : fst F s (l.take k) = q at Ks HNk
        clear hq
        go_wp2_with (first | ((with_reducible refine gate_dst (N := 24) rfl ?_); refine wpList_load_row rfl 99 (.tmp 4) rfl (w.heap.size) rfl 99 #[.int .i64 (q).1, .int .i64 (q).2.1, .int .i64 (q).2.2] (0, 0) _ Ks.out Try.underlying99 rfl info_s ?_; refine wpList_load_row rfl 95 (.tmp 5) rfl (w.heap.size + 1) rfl 95 #[.int .i64 c0, .int .i64 c1, .float .f64 c2, .int .i64 c3, .int .i64 c4, .int .i64 c5, .int .i64 c6, .int .i64 c7, .int .i64 c8, .bool c9, .bool c10] (0, 0) _ Kc.out Try.underlying95 rfl info_c ?_))
        (with_reducible refine (HS.out _ _ _).mono ?_); rintro e w1 ⟨rfl, hb⟩
        have Ks1 := Lib.hid (blk_below Ks.out hb); have Kc1 := Lib.hid (blk_below Kc.out hb); have Kz1 := Lib.hid (blk_below Kz.out hb); have Ko1 := Lib.hid (blk_below Ko.out hb)
        have BB1 : Hid (Below w.heap.size w w1) := Lib.hid (Below.trans BB.out (hb.mono BB.out.size))
        clear hb hc1
        go_wp2_with (refine wpList_store_rowTo rfl 99 (.tmp 4) (.tmp 28) rfl rfl (w.heap.size) #[.int .i64 (F q x).1, .int .i64 (F q x).2.1, .int .i64 (F q x).2.2] rfl rfl 99 #[.int .i64 (q).1, .int .i64 (q).2.1, .int .i64 (q).2.2] Ks1.out info_s rfl (by simp [Value.oneCell']) ?_)
        go_roundw
        case rel => exact ⟨k + 1, by omega, by go_num, Lib.hid (by rw [HNk.out]; exact setRow_heap _ _ _ _ 99 _ Ks1.out), Lib.hid ((setRow_other _ _ _ _ (by omega)).trans Kc1.out), Lib.hid ((setRow_other _ _ _ _ (by omega)).trans Kz1.out), Lib.hid ((setRow_other _ _ _ _ (by omega)).trans Ko1.out), Lib.hid (below_setRow BB1.out (Nat.le_refl _) _)⟩
        case measure => simp [intOf]; omega
      · have hk2 : k = l.length := by omega
        have Ks2 : Hid (wr.heap[w.heap.size]? = some (.cells #[.int .i64 (fst F s l).1, .int .i64 (fst F s l).2.1, .int .i64 (fst F s l).2.2] 99 (0, 0))) := Lib.hid (by have := Ks.out; rw [hk2, List.take_length] at this; exact this)
        clear Ks
        go_wp2_with (first | ((with_reducible refine gate_dst (N := 30) rfl ?_); refine wpList_load_row rfl 99 (.tmp 4) rfl (w.heap.size) rfl 99 #[.int .i64 (fst F s l).1, .int .i64 (fst F s l).2.1, .int .i64 (fst F s l).2.2] (0, 0) _ Ks2.out Try.underlying99 rfl info_s ?_) | (refine wpList_store_rowTo rfl 99 (.tmp 8) (.tmp 30) rfl rfl (w.heap.size + 2) #[.int .i64 (fst F s l).1, .int .i64 (fst F s l).2.1, .int .i64 (fst F s l).2.2] rfl rfl 99 #[.int .i64 0, .int .i64 0, .int .i64 0] Kz.out info_s rfl (by simp [Value.oneCell']) ?_))
        have hrow : (wr.setRow (w.heap.size + 2) #[.int .i64 (fst F s l).1, .int .i64 (fst F s l).2.1, .int .i64 (fst F s l).2.2]).heap[w.heap.size + 2]? = some (.cells #[.int .i64 (fst F s l).1, .int .i64 (fst F s l).2.1, .int .i64 (fst F s l).2.2] 99 (0, 0)) := setRow_heap _ _ _ _ 99 _ Kz.out
        have hld := run_loadVar_row (P := Try.prog) (wr.setRow (w.heap.size + 2) #[.int .i64 (fst F s l).1, .int .i64 (fst F s l).2.1, .int .i64 (fst F s l).2.2]) (w.heap.size + 2) 99 99 #[.int .i64 (fst F s l).1, .int .i64 (fst F s l).2.1, .int .i64 (fst F s l).2.2] (0, 0) _ hrow Try.underlying99 rfl (by kernel_rfl)
        exact bodyPost_ret (v := .agg #[.int .i64 (fst F s l).1, .int .i64 (fst F s l).2.1, .int .i64 (fst F s l).2.2]) (by simp [results, Try.results94, Act.put, asAddr, hld]) rfl ⟨rfl, below_setRow BB.out (by omega) _⟩
end Go.Proofs.Ytclfambjkolckaa.Paced
