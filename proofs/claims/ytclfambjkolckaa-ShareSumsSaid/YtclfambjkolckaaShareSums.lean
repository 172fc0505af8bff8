/- The law ShareSums: the sum of any floats, and which is the greatest, is the document's. For all floats, at most 50 of them (beyond it the examples are asked alone). -/
import Derived.Test.YtclfambjkolckaaShareTells
import Derived.OwnWalk
import Derived.Laws.OwnMore
namespace Go.Proofs.Ytclfambjkolckaa.Fl
open Go Go.RowKit Ieee Go.Proofs.Ytclfambjkolckaa.ShareM Go.Proofs.YtclfambjkolckaaW.PrintWords
set_option linter.unusedVariables false
set_option linter.unusedSimpArgs false
set_option maxRecDepth 20000
def fvs (l : List Int) : List Value := l.map fun x => .float .f64 x.toNat
theorem infoF : (Try.prog.info? 79).map (fun i => (i.zero, i.size, i.bytes)) = some (some (.float .f64 0), 1, 8) := by kernel_rfl
def FlPost (l : List Int) (w : World) (e : Ending) (w' : World) : Prop := ∃ v, e = .returned v ∧ w'.ownsRow w.heap.size 79 1 v l.length (fvs l) ∧ Below w.heap.size w w'
theorem fvs_snoc (l : List Int) (k : Nat) (h : k < l.length) : fvs (l.take (k + 1)) = fvs (l.take k) ++ [.float .f64 (l.getD k 0).toNat] := by
  unfold fvs
  rw [List.take_succ_eq_append_getElem h, List.map_append, List.getD_eq_getElem?_getD, List.getElem?_eq_getElem h]; rfl
set_option maxHeartbeats 2000000 in
theorem floats_calls (a : Option Addr) (l : List Int) (cap : Nat) (w : World) (hlen : l.length ≤ 50) (hr : Kd.C (Kd.int .u64) w a l.length l) :
    Calls Try.prog 69 #[.slice a l.length cap] w (FlPost l w) := by
  have HR := Lib.hid hr; clear hr
  obtain ⟨i0, hi, hz0, hz1, hz2⟩ := info_parts infoF
  have hf := f64from
  go_enter Try.func69, Try.ntmps69
  go_wp2
  go_loopw [3, 8] (fun v i wr => ∃ k : Nat, k ≤ l.length ∧ i = .int .i64 k ∧ Hid (wr.ownsRow w.heap.size 79 1 v k (fvs (l.take k))) ∧ Hid (Below w.heap.size w wr)) (fun _ i _ => l.length - (intOf i).toNat)
  case atStart => exact ⟨0, by omega, rfl, Lib.hid (World.ownsRow_nil _ _ _ _), Lib.hid (Below.refl _ _)⟩
  case round =>
    obtain ⟨k, hk, rfl, HO, HB⟩ := hrel
    by_cases hlt : k < l.length
    · obtain ⟨ad, hA, hcell⟩ := Kd.at_int HR.out (k : Int) (by omega) (by omega)
      subst hA
      replace hcell := pw_cell_below HB.out hcell
      rw [Int.toNat_natCast] at hcell
      have hx : rd l (k : Int) = l.getD k 0 := rfl
      have HS := Lib.hid (fvs_snoc l k hlt)
      have hB0 := HB.out.size
      rw [hx] at hcell
      generalize l.getD k 0 = x at hcell HS
      go_wp2_with (at_builtin; refine wpList_append_own _ rfl _ _ 75 rfl w.heap.size 79 i0 (.float .f64 0) 1 8 Try.underlying75 hi hz0 hz1 hz2 rfl (by decide) _ _ _ rfl (HO.out.alloc _) ⟨wr.heap.size, 0, none⟩ 1 1 [.float .f64 x.toNat] rfl rfl ?c1 ?c2 ?c3 ?c4 ?c5 ?_)
      case c1 => intro j u hj; match j, hj with | 0, hj => (cases hj; exact (blk_cell (blk_new wr _) 0).trans rfl)
      case c2 => intro u hu; rw [List.mem_singleton.1 hu]; rfl
      case c3 => unfold maxLen; omega
      case c4 => omega
      case c5 => simp; omega
      intro v' w1 hown' hgrow _
      have HO1 := Lib.hid (show w1.ownsRow w.heap.size 79 1 v' (k + 1) (fvs (l.take (k + 1))) by rw [HS.out]; exact hown')
      have HB1 := Lib.hid (Below.grown (HB.out.alloc hB0 _) hgrow (by simp; omega) (fun j hj => (HO.out.lt j hj).1))
      clear hown' hgrow hcell
      go_wp2
      go_roundw
      case rel => exact ⟨k + 1, by omega, by go_num, HO1, HB1⟩
      case measure => simp [intOf]; omega
    · have hk2 : k = l.length := by omega
      have HO2 := Lib.hid (show wr.ownsRow w.heap.size 79 1 u3 l.length (fvs l) by have := HO.out; rw [hk2, List.take_length] at this; exact this)
      go_wp2
      go_ret
      exact ⟨_, rfl, HO2.out, HB.out⟩
theorem row_of {w : World} {B : Nat} {v : Value} {l : List Int} (h : w.ownsRow B 79 1 v l.length (fvs l)) : ∃ a cap, v = .slice a l.length cap ∧ FlRow w a l.length (l.map Int.toNat) := by
  obtain ⟨h1, h2⟩ := h
  rcases h2 with ⟨rfl, h0⟩ | ⟨g, cap, cur, rfl, hg, hh, hn, hm, hs, ht⟩
  · rw [h0]; exact ⟨none, 0, rfl, by simp [h0], fun hc => absurd rfl hc⟩
  · refine ⟨_, cap, rfl, by simp, fun h0 => ⟨g, 0, rfl, fun k hk => ?_⟩⟩
    rw [Nat.mul_one] at ht
    have h3 : (cur.toList.take l.length)[k]? = (fvs l)[k]? := by rw [ht]
    rw [List.getElem?_take_of_lt hk, Array.getElem?_toList] at h3
    simp only [World.cell?, hh, Nat.zero_add]
    have h4 : (fvs l)[k]? = some (.float .f64 ((l.map Int.toNat).getD k 0)) := by
      unfold fvs
      rw [List.getElem?_map, List.getD_eq_getElem?_getD, List.getElem?_map, List.getElem?_eq_getElem hk]; rfl
    rw [if_neg (by decide), h3, h4]
theorem words_of {l : List Int} (h : ∀ x ∈ l, (Lit.int .u64 x).wf = true) : Words (l.map Int.toNat) := by
  intro k
  rw [List.getD_eq_getElem?_getD, List.getElem?_map]
  cases hc : l[k]? with
  | none => simp
  | some x =>
    have := bounds_u64 (h x (List.mem_of_getElem? hc))
    simp; omega
theorem tot_same {o : Option Nat} {x y : Nat} (h1 : TotIs o x) (h2 : TotIs o y) : smv x y = true ∧ x < 18446744073709551616 ∧ y < 18446744073709551616 := by
  cases o with
  | none => exact ⟨by unfold smv; rw [decide_eq_true h1.1, decide_eq_true h2.1]; rfl, h1.2, h2.2⟩
  | some r =>
    obtain ⟨rfl, _, h⟩ := h1
    obtain ⟨rfl, _, _⟩ := h2
    exact ⟨smv_self _, h, h⟩
theorem FlRow.drew {w : World} {a : Option Addr} {n : Nat} {l : List Nat} (h : FlRow w a n l) (j : Nat) : FlRow (w.drewN j) a n l := h
set_option maxHeartbeats 2000000 in
theorem sums_calls (a0 : Option Addr) (l0 : List Int) (cap0 : Nat) (w : World) (hm0 : l0.length ≤ maxLen) (y0 : l0.length * 8 ≤ 140737488351232) (hw0 : ∀ x ∈ l0, (Lit.int .u64 x).wf = true) (hr0 : Kd.C (Kd.int .u64) w a0 l0.length l0) (hc0 : l0.length ≤ cap0) :
    Calls Try.prog 10 #[.slice a0 l0.length cap0] w fun e w' => e = .returned (.bool true) ∧ Below w.heap.size w w' := by
  have HW := Lib.hid (words_of hw0); clear hm0 hw0 hc0
  by_cases h1 : 50 < l0.length
  · go_enter Try.func10, Try.ntmps10
    go_wp2_with ((with_reducible refine (lives_calls _).mono ?_); rintro e w' ⟨rfl, hb⟩)
    go_ret
    exact ⟨rfl, hb⟩
  · have h2 : l0.length ≤ 50 := by omega
    clear h1
    have HR := Lib.hid hr0; clear hr0
    go_enter Try.func10, Try.ntmps10
    go_wp2_with fail
    (with_reducible refine (floats_calls _ _ _ _ h2 HR.out).mono ?_)
    rintro e w1 ⟨v, rfl, hown, hb⟩
    obtain ⟨a, cap, rfl, hrow⟩ := row_of hown
    have HF := Lib.hid hrow; have HB := Lib.hid hb
    clear hown hrow hb
    go_wp2_with fail
    (with_reducible refine (top_calls _ _ _ _ _ HF.out HW.out (by omega)).mono ?_)
    rintro e w2 ⟨rfl, rfl⟩
    go_wp2_with fail
    (with_reducible refine (rtop_calls _ _ _ _ _ HF.out HW.out (by omega)).mono ?_)
    rintro e w2 ⟨rfl, j, rfl⟩
    go_wp2_with fail
    (with_reducible refine (total_calls _ _ _ _ _ (HF.out.drew _) (by omega)).mono ?_)
    rintro e w2 ⟨z1, j1, rfl, ht1, rfl⟩
    go_wp2_with fail
    (with_reducible refine (rtotal_calls _ _ _ _ _ (HF.out.drew _) (by omega)).mono ?_)
    rintro e w2 ⟨z2, j2, rfl, ht2, rfl⟩
    obtain ⟨hs, g1, g2⟩ := tot_same ht1 ht2
    have HS := Lib.hid hs; have G1 := Lib.hid g1; have G2 := Lib.hid g2
    clear hs g1 g2 ht1 ht2
    go_wp2_with fail
    (with_reducible refine (rsame_calls _ _ G1.out G2.out _).mono ?_)
    rintro e w2 ⟨rfl, rfl⟩
    rw [HS.out]
    go_wp2_with ((with_reducible refine (lives_calls _).mono ?_); rintro e w' ⟨rfl, hb⟩)
    go_ret
    exact ⟨rfl, Below.trans (below_drewN HB.out _) (hb.mono (by have := HB.out.size; simpa using this))⟩
end Go.Proofs.Ytclfambjkolckaa.Fl
