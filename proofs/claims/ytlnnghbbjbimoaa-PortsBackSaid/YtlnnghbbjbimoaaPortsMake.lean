/- ports.Make, walked. -/
import Derived.Test.YtlnnghbbjbimoaaOctPut
import Derived.Test.YtlnnghbbjbimoaaPTx1
namespace Go.Proofs.Ytlnnghbbjbimoaa.PortsMake
open Go Go.RowKit Go.Proofs.Ytlnnghbbjbimoaa.PT Go.Proofs.Ytlnnghbbjbimoaa.OctPut Go.Proofs.YtlnnghbbjbimoaaW.PrintWords Go.Proofs.YtlnnghbbjbimoaaW.PrintLast Go.Proofs.YtlnnghbbjbimoaaW.PrintMore
set_option linter.unusedVariables false
set_option linter.unusedSimpArgs false
theorem nilC (w : World) : Kd.C (Kd.int .u8) w none ([] : List Int).length [] := ⟨rfl, by decide, fun h => absurd h (by decide)⟩
set_option maxRecDepth 100000 in
set_option maxHeartbeats 2000000 in
theorem make_long (p src dst : Int) (pl : ByteArray) (w : World) (hl : decide ((pl.size : Int) > 65515) = true) :
    Calls Try.prog 46 #[.int .i64 p, .int .i64 src, .int .i64 dst, .string pl] w fun e w' => e = .returned (.string ⟨#[]⟩) ∧ Below w.heap.size w w' := by
  have hl' : decide (65515 < (pl.size : Int)) = true := hl
  go_enter Try.func46, Try.ntmps46
  go_wp2
  go_ret
  exact ⟨rfl, Below.refl _ _⟩
set_option maxRecDepth 100000 in
set_option maxHeartbeats 2000000 in
theorem make_udp (src dst : Int) (pl : ByteArray) (w : World) (hl : decide ((pl.size : Int) > 65515) = false) (r1 r2 r3 r4 : List Int) (h1 : octets_PutU16.f [] src = some r1) (h2 : octets_PutU16.f r1 dst = some r2) (h3 : octets_PutU16.f r2 (8 + pl.size) = some r3) (h4 : octets_PutU16.f r3 0 = some r4) (hr : r4.length < 1000) :
    Calls Try.prog 46 #[.int .i64 17, .int .i64 src, .int .i64 dst, .string pl] w fun e w' => e = .returned (.string (strOfNums r4 ++ pl)) ∧ Below w.heap.size w w' := by
  have hl' : decide (65515 < (pl.size : Int)) = false := hl
  have hsz : (pl.size : Int) ≤ 65515 := by have := of_decide_eq_false hl; omega
  go_enter Try.func46, Try.ntmps46
  have H1 := Lib.hid h1; have H2 := Lib.hid h2; have H3 := Lib.hid h3; have H4 := Lib.hid h4; clear h1 h2 h3 h4
  go_wp2_with (first | (go_at_call 20; refine (octets_PutU16.calls _ _ r3 0 r4 _ (Kd.R_reads' R3.out).2.2 (Kd.R_reads' R3.out).2.1 H4.out).mono ?_; rintro e w4 ⟨v, rfl, ho, hb⟩; obtain ⟨A4, c4, hv⟩ := Kd.R_slice ho; subst hv; have R4 := Lib.hid ho; have B4 := Lib.hid (B3.out.trans (hb.mono B3.out.size)); clear ho hb) | (go_at_call 20; refine (octets_PutU16.calls _ _ r2 (8 + pl.size) r3 _ (Kd.R_reads' R2.out).2.2 (Kd.R_reads' R2.out).2.1 H3.out).mono ?_; rintro e w3 ⟨v, rfl, ho, hb⟩; obtain ⟨A3, c3, hv⟩ := Kd.R_slice ho; subst hv; have R3 := Lib.hid ho; have B3 := Lib.hid (B2.out.trans (hb.mono B2.out.size)); clear ho hb) | (go_at_call 20; refine (octets_PutU16.calls _ _ r1 dst r2 _ (Kd.R_reads' R1.out).2.2 (Kd.R_reads' R1.out).2.1 H2.out).mono ?_; rintro e w2 ⟨v, rfl, ho, hb⟩; obtain ⟨A2, c2, hv⟩ := Kd.R_slice ho; subst hv; have R2 := Lib.hid ho; have B2 := Lib.hid (B1.out.trans (hb.mono B1.out.size)); clear ho hb) | (go_at_call 20; refine (octets_PutU16.calls _ _ [] src r1 _ (nilC _) (Nat.le_refl _) H1.out).mono ?_; rintro e w1 ⟨v, rfl, ho, hb⟩; obtain ⟨A1, c1, hv⟩ := Kd.R_slice ho; subst hv; have R1 := Lib.hid ho; have B1 := Lib.hid (hb); clear ho hb))
  have hzz : ¬ 9223372036854775807 < (strOfNums r4).size + pl.size := by rw [strOfNums_size]; omega
  rw [Kd.C_string Try.underlying22 Try.underlying5 Try.underlying9 (Kd.R_reads' R4.out).2.2]
  simp only [Result.andThen_ok]
  go_wp2
  go_ret
  exact ⟨rfl, B4.out⟩
set_option maxRecDepth 100000 in
set_option maxHeartbeats 2000000 in
theorem make_tcp (src dst : Int) (pl : ByteArray) (w : World) (hl : decide ((pl.size : Int) > 65515) = false) (r1 r2 r3 rq r4 r5 : List Int) (hq : rq = r3 ++ [80, 0]) (h1 : octets_PutU16.f [] src = some r1) (h2 : octets_PutU16.f r1 dst = some r2) (h3 : octets_PutU64.f r2 0 = some r3) (h4 : octets_PutU32.f rq 0 = some r4) (h5 : octets_PutU16.f r4 0 = some r5) (hr : r3.length < 1000) (hr5 : r5.length < 1000) :
    Calls Try.prog 46 #[.int .i64 6, .int .i64 src, .int .i64 dst, .string pl] w fun e w' => e = .returned (.string (strOfNums r5 ++ pl)) ∧ Below w.heap.size w w' := by
  have hl' : decide (65515 < (pl.size : Int)) = false := hl
  have hsz : (pl.size : Int) ≤ 65515 := by have := of_decide_eq_false hl; omega
  obtain ⟨i0, hi, hz0, hz1, hz2⟩ := info_parts infoB
  go_enter Try.func46, Try.ntmps46
  have H1 := Lib.hid h1; have H2 := Lib.hid h2; have H3 := Lib.hid h3; have H4 := Lib.hid h4; have H5 := Lib.hid h5; have HQ := Lib.hid hq; clear h1 h2 h3 h4 h5 hq
  go_wp2_with (first | (at_builtin; refine wpList_append_part _ rfl (.tmp 21) (.tmp 22) 22 rfl i0 Try.underlying22 hi hz0 hz1 hz2 _ r3.length w2.heap.size (r3.map (Value.int .u8)) rfl ?c1 ⟨w3.heap.size, 0, none⟩ 2 2 [.int .u8 80, .int .u8 0] rfl rfl ?c2 ?c3 (by decide) (by unfold maxLen; omega) (by omega) w2 ?c4 rfl ?c5) | (go_at_call 23; refine (octets_PutU64.calls _ _ r2 0 r3 _ (Kd.R_reads' R2.out).2.2 (Kd.R_reads' R2.out).2.1 H3.out).mono ?_; rintro e w3 ⟨v, rfl, ho, hb⟩; obtain ⟨A3, c3, hv⟩ := Kd.R_slice ho; subst hv; have R3 := Lib.hid ho; have B3 := Lib.hid (B2.out.trans (hb.mono B2.out.size)); have Q3 := Lib.hid hb; clear ho hb) | (go_at_call 20; refine (octets_PutU16.calls _ _ r1 dst r2 _ (Kd.R_reads' R1.out).2.2 (Kd.R_reads' R1.out).2.1 H2.out).mono ?_; rintro e w2 ⟨v, rfl, ho, hb⟩; obtain ⟨A2, c2, hv⟩ := Kd.R_slice ho; subst hv; have R2 := Lib.hid ho; have B2 := Lib.hid (B1.out.trans (hb.mono B1.out.size)); clear ho hb) | (go_at_call 20; refine (octets_PutU16.calls _ _ [] src r1 _ (nilC _) (Nat.le_refl _) H1.out).mono ?_; rintro e w1 ⟨v, rfl, ho, hb⟩; obtain ⟨A1, c1, hv⟩ := Kd.R_slice ho; subst hv; have R1 := Lib.hid ho; have B1 := Lib.hid (hb); clear ho hb))
  case c1 =>
    have ho := Kd.own_of_R R3.out
    exact .inr (own_alloc ho _)
  case c2 => intro j u hj; match j, hj with | 0, hj => simp at hj; subst hj; simp [Addr.add] | 1, hj => simp at hj; subst hj; simp [Addr.add]
  case c3 => intro u hu; simp at hu; rcases hu with rfl | rfl <;> rfl
  case c4 => exact (Q3.out).alloc Q3.out.size _
  case c5 =>
    intro v' w' hown hbel
    have R4 := Lib.hid (R_of_u8 hown (xs := rq) (by rw [HQ.out]; simp) (by rw [HQ.out]; simp))
    obtain ⟨A4, c4, hv⟩ := Kd.R_slice R4.out
    subst hv
    have B4 := Lib.hid (B2.out.trans (hbel.mono B2.out.size))
    clear hown hbel
    go_wp2_with (first | (go_at_call 20; refine (octets_PutU16.calls _ _ r4 0 r5 _ (Kd.R_reads' R5.out).2.2 (Kd.R_reads' R5.out).2.1 H5.out).mono ?_; rintro e w6 ⟨v, rfl, ho, hb⟩; obtain ⟨A6, c6, hv⟩ := Kd.R_slice ho; subst hv; have R6 := Lib.hid ho; have B6 := Lib.hid (B5.out.trans (hb.mono B5.out.size)); clear ho hb) | (go_at_call 22; refine (octets_PutU32.calls _ _ rq 0 r4 _ (Kd.R_reads' R4.out).2.2 (Kd.R_reads' R4.out).2.1 H4.out).mono ?_; rintro e w5 ⟨v, rfl, ho, hb⟩; obtain ⟨A5, c5, hv⟩ := Kd.R_slice ho; subst hv; have R5 := Lib.hid ho; have B5 := Lib.hid (B4.out.trans (hb.mono B4.out.size)); clear ho hb))
    have hzz : ¬ 9223372036854775807 < (strOfNums r5).size + pl.size := by rw [strOfNums_size]; omega
    rw [Kd.C_string Try.underlying22 Try.underlying5 Try.underlying9 (Kd.R_reads' R6.out).2.2]
    simp only [Result.andThen_ok]
    go_wp2
    go_ret
    exact ⟨rfl, B6.out⟩
set_option maxRecDepth 100000 in
set_option maxHeartbeats 2000000 in
theorem make_none (p src dst : Int) (pl : ByteArray) (w : World) (hl : decide ((pl.size : Int) > 65515) = false) (h6 : (p == 6) = false) (h17 : (p == 17) = false) (r1 r2 : List Int) (h1 : octets_PutU16.f [] src = some r1) (h2 : octets_PutU16.f r1 dst = some r2) :
    Calls Try.prog 46 #[.int .i64 p, .int .i64 src, .int .i64 dst, .string pl] w fun e w' => e = .returned (.string (strOfNums [] ++ pl)) ∧ Below w.heap.size w w' := by
  have hl' : decide (65515 < (pl.size : Int)) = false := hl
  have hsz : (pl.size : Int) ≤ 65515 := by have := of_decide_eq_false hl; omega
  go_enter Try.func46, Try.ntmps46
  have H1 := Lib.hid h1; have H2 := Lib.hid h2; clear h1 h2
  go_wp2_with (first | (go_at_call 20; refine (octets_PutU16.calls _ _ r1 dst r2 _ (Kd.R_reads' R1.out).2.2 (Kd.R_reads' R1.out).2.1 H2.out).mono ?_; rintro e w2 ⟨v, rfl, ho, hb⟩; obtain ⟨A2, c2, hv⟩ := Kd.R_slice ho; subst hv; have R2 := Lib.hid ho; have B2 := Lib.hid (B1.out.trans (hb.mono B1.out.size)); clear ho hb) | (go_at_call 20; refine (octets_PutU16.calls _ _ [] src r1 _ (nilC _) (Nat.le_refl _) H1.out).mono ?_; rintro e w1 ⟨v, rfl, ho, hb⟩; obtain ⟨A1, c1, hv⟩ := Kd.R_slice ho; subst hv; have R1 := Lib.hid ho; have B1 := Lib.hid (hb); clear ho hb))
  have hzz : ¬ 9223372036854775807 < (strOfNums []).size + pl.size := by rw [strOfNums_size]; simp; omega
  rw [Kd.C_string (A := none) (n := 0) (c := 0) Try.underlying22 Try.underlying5 Try.underlying9 (nilC _)]
  simp only [Result.andThen_ok]
  go_wp2
  go_ret
  exact ⟨rfl, B2.out⟩
theorem f16 (l : List Int) (a : Int) (h : l.length ≤ 1000) : octets_PutU16.f l a = some (l ++ [a / 256 % 256, a % 256]) := by
  unfold octets_PutU16.f; rw [if_pos (by omega)]
theorem f32z (l : List Int) (h : l.length ≤ 990) : octets_PutU32.f l 0 = some (l ++ [0, 0, 0, 0]) := by
  unfold octets_PutU32.f
  rw [f16 l _ (by omega), Option.bind_some, f16 _ _ (by simp; omega)]
  simp
theorem f64z (l : List Int) (h : l.length ≤ 900) : octets_PutU64.f l 0 = some (l ++ [0, 0, 0, 0, 0, 0, 0, 0]) := by
  unfold octets_PutU64.f
  have e : wrap64 (Go.bits .and .u64 0 4294967295) = 0 := by kernel_rfl
  rw [e, show wrap64 ((0 : Int) / 4294967296) = 0 from by kernel_rfl, f32z l (by omega), Option.bind_some, f32z _ (by simp; omega)]
  simp
/-- what ports.Make answers -/
def mv (p src dst : Int) (pl : ByteArray) : ByteArray :=
  if (pl.size : Int) > 65515 then ⟨#[]⟩ else
  if p = 6 then strOfNums [src / 256 % 256, src % 256, dst / 256 % 256, dst % 256, 0, 0, 0, 0, 0, 0, 0, 0, 80, 0, 0, 0, 0, 0, 0, 0] ++ pl else
  if p = 17 then strOfNums [src / 256 % 256, src % 256, dst / 256 % 256, dst % 256, (8 + pl.size) / 256 % 256, (8 + pl.size) % 256, 0, 0] ++ pl else
  strOfNums [] ++ pl
theorem make_calls (p src dst : Int) (pl : ByteArray) (w : World) :
    Calls Try.prog 46 #[.int .i64 p, .int .i64 src, .int .i64 dst, .string pl] w fun e w' => e = .returned (.string (mv p src dst pl)) ∧ Below w.heap.size w w' := by
  unfold mv
  by_cases hl : (pl.size : Int) > 65515
  · rw [if_pos hl]
    exact make_long p src dst pl w (decide_eq_true hl)
  · rw [if_neg hl]
    by_cases h6 : p = 6
    · subst h6
      rw [if_pos rfl]
      exact make_tcp src dst pl w (decide_eq_false hl) _ _ _ _ _ _ rfl (f16 [] src (by simp)) (f16 _ dst (by simp)) (f64z _ (by simp)) (f32z _ (by simp)) (f16 _ 0 (by simp)) (by simp) (by simp)
    · rw [if_neg h6]
      by_cases h17 : p = 17
      · subst h17
        rw [if_pos rfl]
        exact make_udp src dst pl w (decide_eq_false hl) _ _ _ _ (f16 [] src (by simp)) (f16 _ dst (by simp)) (f16 _ _ (by simp)) (f16 _ 0 (by simp)) (by simp)
      · rw [if_neg h17]
        exact make_none p src dst pl w (decide_eq_false hl) (by simpa using h6) (by simpa using h17) _ _ (f16 [] src (by simp)) (f16 _ dst (by simp))
end Go.Proofs.Ytlnnghbbjbimoaa.PortsMake
