/- inet.Bytes, walked. -/
import Derived.Test.YtlnnghbbjbimoaaSpread2
import Derived.Test.YtlnnghbbjbimoaaPJx1
namespace Go.Proofs.Ytlnnghbbjbimoaa.Bytes
open Go Go.RowKit Go.Proofs.Ytlnnghbbjbimoaa.PJ Go.Proofs.Ytlnnghbbjbimoaa.Spread Go.Proofs.Ytlnnghbbjbimoaa.OctPut Go.Proofs.YtlnnghbbjbimoaaW.PrintWords Go.Proofs.YtlnnghbbjbimoaaW.PrintLast Go.Proofs.YtlnnghbbjbimoaaW.PrintMore
open Go.Proofs.Ytlnnghbbjbimoaa.PNum (be be_length)
set_option linter.unusedVariables false
set_option linter.unusedSimpArgs false
theorem reads_at (w : World) (b o : Nat) (xs : List Int) (t : Nat) (h : w.heap[b]? = some (.cells (xs.map (Value.int .u8)).toArray t (0, 0))) (ho : o ≤ xs.length) (hm : xs.length ≤ 9223372036854775807 := by simp [sp_length]) : ReadsInt w .u8 (some ⟨b, o, none⟩) (xs.length - o) (xs.drop o) := by
  refine ⟨by simp, by omega, fun hn => ⟨⟨b, o, none⟩, rfl, fun j hj => ?_⟩⟩
  have e : (⟨b, o, none⟩ : Addr).add j = ⟨b, o + j, none⟩ := by unfold Addr.add; split <;> simp_all
  rw [e, blk_cell h (o + j)]
  have hl : o + j < xs.length := by omega
  simp [hl, List.getD_eq_getElem?_getD, List.getElem?_drop]
set_option maxRecDepth 100000 in
set_option maxHeartbeats 2000000 in
theorem bytes4 (h l : Int) (w : World) (hh : 0 ≤ h ∧ h < 18446744073709551616) (hl : 0 ≤ l ∧ l < 18446744073709551616) (hr : inet_Right.f 4 h l = some true) :
    Calls Try.prog 57 #[.int .i64 4, .agg #[.int .u64 h, .int .u64 l]] w fun e w' => e = .returned (.string (strOfNums ((sp h l).drop 12))) ∧ Below w.heap.size w w' := by
  have HR := Lib.hid hr; clear hr
  have hsz : (Try.prog.info? 153).map (·.size) = some ((sp h l).map (Value.int .u8)).toArray.size := by rw [info16]; simp [sp_length]
  have HS := Lib.hid hsz; clear hsz
  have hb4 : inet_Bits.f 4 = some 32 := rfl
  go_enter Try.func57, Try.ntmps57
  go_wp2_with (first | (go_at_call 59; refine (inet_Right.calls 4 h l true _ HR.out).mono ?_; rintro e w1 ⟨rfl, hb⟩; have A1 := Lib.hid (blk_below (blk_new w _) hb); have B1 := Lib.hid (((Below.refl w.heap.size w).alloc (Nat.le_refl _) _).trans (hb.mono (by simp))); have c0 : w1.cell? ⟨w.heap.size, 0, none⟩ = some (.int .u64 h) := (blk_cell A1.out 0).trans rfl; have c1 : w1.cell? ⟨w.heap.size, 1, none⟩ = some (.int .u64 l) := (blk_cell A1.out 1).trans rfl; clear hb) | (go_at_call 118; refine (spread_ok h l _ hh hl).mono ?_; rintro e w2 ⟨rfl, hb⟩; have B2 := Lib.hid hb; clear hb) | ((with_reducible refine gate_store (p := 5) rfl ?_); refine wpList_store_row rfl 153 (.tmp 5) _ rfl w2.heap.size ((sp h l).map (Value.int .u8)).toArray rfl rfl 153 #[.int .u8 0, .int .u8 0, .int .u8 0, .int .u8 0, .int .u8 0, .int .u8 0, .int .u8 0, .int .u8 0, .int .u8 0, .int .u8 0, .int .u8 0, .int .u8 0, .int .u8 0, .int .u8 0, .int .u8 0, .int .u8 0] (blk_new w2 _) HS.out (by simp [sp_length]) (by simp [Value.oneCell']) ?_; have T3 := Lib.hid (setRow_heap (w2.alloc (.cells #[.int .u8 0, .int .u8 0, .int .u8 0, .int .u8 0, .int .u8 0, .int .u8 0, .int .u8 0, .int .u8 0, .int .u8 0, .int .u8 0, .int .u8 0, .int .u8 0, .int .u8 0, .int .u8 0, .int .u8 0, .int .u8 0] 153 (0, 0))) w2.heap.size #[.int .u8 0, .int .u8 0, .int .u8 0, .int .u8 0, .int .u8 0, .int .u8 0, .int .u8 0, .int .u8 0, .int .u8 0, .int .u8 0, .int .u8 0, .int .u8 0, .int .u8 0, .int .u8 0, .int .u8 0, .int .u8 0] ((sp h l).map (Value.int .u8)).toArray 153 (0, 0) (blk_new w2 _)); have B3 := Lib.hid (below_setRow ((B1.out.trans (B2.out.mono B1.out.size)).alloc (Nat.le_trans B1.out.size B2.out.size) (.cells #[.int .u8 0, .int .u8 0, .int .u8 0, .int .u8 0, .int .u8 0, .int .u8 0, .int .u8 0, .int .u8 0, .int .u8 0, .int .u8 0, .int .u8 0, .int .u8 0, .int .u8 0, .int .u8 0, .int .u8 0, .int .u8 0] 153 (0, 0))) (Nat.le_trans B1.out.size B2.out.size) ((sp h l).map (Value.int .u8)).toArray); revert T3 B3; generalize (w2.alloc (.cells #[.int .u8 0, .int .u8 0, .int .u8 0, .int .u8 0, .int .u8 0, .int .u8 0, .int .u8 0, .int .u8 0, .int .u8 0, .int .u8 0, .int .u8 0, .int .u8 0, .int .u8 0, .int .u8 0, .int .u8 0, .int .u8 0] 153 (0, 0))).setRow w2.heap.size ((sp h l).map (Value.int .u8)).toArray = w3; intro T3 B3) | (go_at_call 73; refine (inet_Bits.calls 4 32 _ rfl).mono ?_; rintro e w4 ⟨rfl, ⟨nd, rfl⟩⟩))
  rw [string_of_reads (xs := (sp h l).drop 12) Try.underlying22 Try.underlying5 Try.underlying9 (by have := reads_at (w3.drewN nd) w2.heap.size 12 (sp h l) 153 (blk_drewN T3.out nd) (by simp [sp_length]); simpa [sp_length] using this)]
  simp only [Result.andThen_ok]
  go_wp2
  go_ret
  exact ⟨rfl, pw_below_drewN B3.out _⟩
set_option maxRecDepth 100000 in
set_option maxHeartbeats 2000000 in
theorem bytes6 (h l : Int) (w : World) (hh : 0 ≤ h ∧ h < 18446744073709551616) (hl : 0 ≤ l ∧ l < 18446744073709551616) (hr : inet_Right.f 6 h l = some true) :
    Calls Try.prog 57 #[.int .i64 6, .agg #[.int .u64 h, .int .u64 l]] w fun e w' => e = .returned (.string (strOfNums ((sp h l).drop 0))) ∧ Below w.heap.size w w' := by
  have HR := Lib.hid hr; clear hr
  have hsz : (Try.prog.info? 153).map (·.size) = some ((sp h l).map (Value.int .u8)).toArray.size := by rw [info16]; simp [sp_length]
  have HS := Lib.hid hsz; clear hsz
  have hb4 : inet_Bits.f 6 = some 128 := rfl
  go_enter Try.func57, Try.ntmps57
  go_wp2_with (first | (go_at_call 59; refine (inet_Right.calls 6 h l true _ HR.out).mono ?_; rintro e w1 ⟨rfl, hb⟩; have A1 := Lib.hid (blk_below (blk_new w _) hb); have B1 := Lib.hid (((Below.refl w.heap.size w).alloc (Nat.le_refl _) _).trans (hb.mono (by simp))); have c0 : w1.cell? ⟨w.heap.size, 0, none⟩ = some (.int .u64 h) := (blk_cell A1.out 0).trans rfl; have c1 : w1.cell? ⟨w.heap.size, 1, none⟩ = some (.int .u64 l) := (blk_cell A1.out 1).trans rfl; clear hb) | (go_at_call 118; refine (spread_ok h l _ hh hl).mono ?_; rintro e w2 ⟨rfl, hb⟩; have B2 := Lib.hid hb; clear hb) | ((with_reducible refine gate_store (p := 5) rfl ?_); refine wpList_store_row rfl 153 (.tmp 5) _ rfl w2.heap.size ((sp h l).map (Value.int .u8)).toArray rfl rfl 153 #[.int .u8 0, .int .u8 0, .int .u8 0, .int .u8 0, .int .u8 0, .int .u8 0, .int .u8 0, .int .u8 0, .int .u8 0, .int .u8 0, .int .u8 0, .int .u8 0, .int .u8 0, .int .u8 0, .int .u8 0, .int .u8 0] (blk_new w2 _) HS.out (by simp [sp_length]) (by simp [Value.oneCell']) ?_; have T3 := Lib.hid (setRow_heap (w2.alloc (.cells #[.int .u8 0, .int .u8 0, .int .u8 0, .int .u8 0, .int .u8 0, .int .u8 0, .int .u8 0, .int .u8 0, .int .u8 0, .int .u8 0, .int .u8 0, .int .u8 0, .int .u8 0, .int .u8 0, .int .u8 0, .int .u8 0] 153 (0, 0))) w2.heap.size #[.int .u8 0, .int .u8 0, .int .u8 0, .int .u8 0, .int .u8 0, .int .u8 0, .int .u8 0, .int .u8 0, .int .u8 0, .int .u8 0, .int .u8 0, .int .u8 0, .int .u8 0, .int .u8 0, .int .u8 0, .int .u8 0] ((sp h l).map (Value.int .u8)).toArray 153 (0, 0) (blk_new w2 _)); have B3 := Lib.hid (below_setRow ((B1.out.trans (B2.out.mono B1.out.size)).alloc (Nat.le_trans B1.out.size B2.out.size) (.cells #[.int .u8 0, .int .u8 0, .int .u8 0, .int .u8 0, .int .u8 0, .int .u8 0, .int .u8 0, .int .u8 0, .int .u8 0, .int .u8 0, .int .u8 0, .int .u8 0, .int .u8 0, .int .u8 0, .int .u8 0, .int .u8 0] 153 (0, 0))) (Nat.le_trans B1.out.size B2.out.size) ((sp h l).map (Value.int .u8)).toArray); revert T3 B3; generalize (w2.alloc (.cells #[.int .u8 0, .int .u8 0, .int .u8 0, .int .u8 0, .int .u8 0, .int .u8 0, .int .u8 0, .int .u8 0, .int .u8 0, .int .u8 0, .int .u8 0, .int .u8 0, .int .u8 0, .int .u8 0, .int .u8 0, .int .u8 0] 153 (0, 0))).setRow w2.heap.size ((sp h l).map (Value.int .u8)).toArray = w3; intro T3 B3) | (go_at_call 73; refine (inet_Bits.calls 6 128 _ rfl).mono ?_; rintro e w4 ⟨rfl, ⟨nd, rfl⟩⟩))
  rw [string_of_reads (xs := (sp h l).drop 0) Try.underlying22 Try.underlying5 Try.underlying9 (by have := reads_at (w3.drewN nd) w2.heap.size 0 (sp h l) 153 (blk_drewN T3.out nd) (by simp [sp_length]); simpa [sp_length] using this)]
  simp only [Result.andThen_ok]
  go_wp2
  go_ret
  exact ⟨rfl, pw_below_drewN B3.out _⟩
set_option maxRecDepth 100000 in
set_option maxHeartbeats 2000000 in
theorem bytesN (v h l : Int) (w : World) (hh : 0 ≤ h ∧ h < 18446744073709551616) (hl : 0 ≤ l ∧ l < 18446744073709551616) (hr : inet_Right.f v h l = some false) :
    Calls Try.prog 57 #[.int .i64 v, .agg #[.int .u64 h, .int .u64 l]] w fun e w' => e = .returned (.string ⟨#[]⟩) ∧ Below w.heap.size w w' := by
  have HR := Lib.hid hr; clear hr
  have hsz : (Try.prog.info? 153).map (·.size) = some ((sp h l).map (Value.int .u8)).toArray.size := by rw [info16]; simp [sp_length]
  have HS := Lib.hid hsz; clear hsz
  go_enter Try.func57, Try.ntmps57
  go_wp2_with (go_at_call 59; refine (inet_Right.calls v h l false _ HR.out).mono ?_; rintro e w1 ⟨rfl, hb⟩; have B1 := Lib.hid (((Below.refl w.heap.size w).alloc (Nat.le_refl _) _).trans (hb.mono (by simp))); clear hb)
  go_ret
  exact ⟨rfl, B1.out⟩
/-- is the address right? -/
def rt (v h l : Int) : Bool := decide (v = 6 ∨ v = 4 ∧ h = 0 ∧ l < 4294967296)
theorem right_v (v h l : Int) (hl : 0 ≤ l ∧ l < 18446744073709551616) : inet_Right.f v h l = some (rt v h l) := by
  unfold inet_Right.f rt
  by_cases h6 : v = 6
  · simp [h6]
  · by_cases h4 : v = 4
    · by_cases h0 : h = 0
      · by_cases h1 : l < 4294967296
        · simp [h4, h0, h1]; omega
        · simp [h4, h0, h1]; omega
      · simp [h4, h0]
    · simp [h6, h4]
/-- what inet.Bytes answers -/
def byv (v h l : Int) : ByteArray := if rt v h l = true then (if v = 4 then strOfNums ((sp h l).drop 12) else strOfNums (sp h l)) else ⟨#[]⟩
theorem bytes_calls (v h l : Int) (w : World) (hh : 0 ≤ h ∧ h < 18446744073709551616) (hl : 0 ≤ l ∧ l < 18446744073709551616) :
    Calls Try.prog 57 #[.int .i64 v, .agg #[.int .u64 h, .int .u64 l]] w fun e w' => e = .returned (.string (byv v h l)) ∧ Below w.heap.size w w' := by
  unfold byv
  have hr := right_v v h l hl
  by_cases h1 : rt v h l = true
  · rw [if_pos h1]
    rw [h1] at hr
    by_cases h4 : v = 4
    · subst h4; rw [if_pos rfl]; exact bytes4 h l w hh hl hr
    · rw [if_neg h4]
      have h6 : v = 6 := by have := of_decide_eq_true h1; omega
      subst h6; exact bytes6 h l w hh hl hr
  · rw [if_neg h1]
    rw [show rt v h l = false from by simpa using h1] at hr
    exact bytesN v h l w hh hl hr
end Go.Proofs.Ytlnnghbbjbimoaa.Bytes
