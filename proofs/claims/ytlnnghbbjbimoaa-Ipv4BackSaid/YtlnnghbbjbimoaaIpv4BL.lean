/- The law Ipv4Back: what is made is read; with one bit, or two that stand near one another, of its header behind the first byte turned, it isn't; with a byte less there is no packet. For all headers and payloads. -/
import Derived.Test.YtlnnghbbjbimoaaIpv4BV
import Derived.Test.YtlnnghbbjbimoaaIpv4Bf
import Derived.Test.YtlnnghbbjbimoaaIpv4Bn
import Derived.Test.YtlnnghbbjbimoaaPVx2
namespace Go.Proofs.Ytlnnghbbjbimoaa.Ipv4BL
open Go Go.RowKit Go.Proofs.Ytlnnghbbjbimoaa.PV Go.Proofs.Ytlnnghbbjbimoaa.PNum Go.Proofs.Ytlnnghbbjbimoaa.Ipv4S Go.Proofs.Ytlnnghbbjbimoaa.Ipv4P Go.Proofs.Ytlnnghbbjbimoaa.Ipv4M Go.Proofs.Ytlnnghbbjbimoaa.Ipv4BV Go.Proofs.Ytlnnghbbjbimoaa.Ipv4B Go.Proofs.YtlnnghbbjbimoaaW.PrintWords Go.Proofs.YtlnnghbbjbimoaaW.PrintLast Go.Proofs.YtlnnghbbjbimoaaW.PrintMore
set_option linter.unusedVariables false
set_option linter.unusedSimpArgs false
theorem make_v (t : ByteArray) (ht : t.size ≤ 200) (a0 a1 a2 a3 a4 a5 a6 a7 : Int) (b : Bool) (h1 : 0 ≤ a1 ∧ a1 ≤ 4294967295) (h3 : 0 ≤ a3 ∧ a3 ≤ 4294967295) (h7 : 0 ≤ a7 ∧ a7 ≤ 8191) :
    ipv4_Make.f 70000001 a0 a1 a2 a3 a4 a5 a6 a7 b t = some (strOfNums (P t (if b = true then a7 + 8192 else a7) a4 a1 a3)) := by
  have e : ∀ F, strOfNums (pkt (20 + (t.size : Int)) F a4 (a1 % 4294967296) (a3 % 4294967296)) ++ t = strOfNums (P t F a4 a1 a3) := by
    intro F
    unfold P
    rw [str_append, bn_str, Int.emod_eq_of_lt h1.1 (by omega), Int.emod_eq_of_lt h3.1 (by omega)]
  unfold ipv4_Make.f
  rw [if_neg (by omega), and13, Int.emod_eq_of_lt h7.1 (by omega)]
  cases b with
  | true => rw [if_pos rfl, or13 _ (by omega), make_j 70000000 _ _ _ _ _ _ _ _ _ _ _ (by omega) (Nat.le_refl _), e, if_pos rfl]
  | false => rw [if_neg (by decide), make_j 70000000 _ _ _ _ _ _ _ _ _ _ _ (by omega) (Nat.le_refl _), e, if_neg (by decide)]
theorem pz (s : ByteArray) (h : pe s ≠ 0) : ∀ i, pv s i = 0 := fun i => by unfold pv; rw [if_neg h]
theorem pmz (s : ByteArray) (h : pe s ≠ 0) : pm s = false := by unfold pm; rw [if_neg h]
/-- Parse of what is none -/
theorem parse_none (s : ByteArray) (w : World) (hs : s.size ≤ 1000) (h : pe s ≠ 0) : Calls Try.prog 85 #[.string s] w fun e w' => e = .returned (.tuple #[.agg #[.int .u64 0, .int .u64 0, .int .u64 0, .int .u64 0, .int .i64 0, .int .i64 0, .int .i64 0, .int .i64 0, .bool false], .int .i64 (pe s)]) ∧ Below w.heap.size w w' := by
  have hc := parse_calls s w hs
  simp only [pz s h, pmz s h] at hc
  exact hc
theorem law_calls (a0 a1 a2 a3 a4 a5 a6 a7 : Int) (b : Bool) (t : ByteArray) (p q : Int) (w : World) (w0 : (Lit.int .u64 a0).wf = true) (w1 : (Lit.int .u64 a1).wf = true) (w2 : (Lit.int .u64 a2).wf = true) (w3 : (Lit.int .u64 a3).wf = true) (w4 : (Lit.int .i64 a4).wf = true) (w5 : (Lit.int .i64 a5).wf = true) (w6 : (Lit.int .i64 a6).wf = true) (w7 : (Lit.int .i64 a7).wf = true) (wt : t.size ≤ 140737488351232) (wp : (Lit.int .u8 p).wf = true) (wq : (Lit.int .u8 q).wf = true) :
    Calls Try.prog 17 #[.agg #[.int .u64 a0, .int .u64 a1, .int .u64 a2, .int .u64 a3, .int .i64 a4, .int .i64 a5, .int .i64 a6, .int .i64 a7, .bool b], .string t, .agg #[.int .u8 p, .int .u8 q]] w fun e w' => e = .returned (.bool true) ∧ Below w.heap.size w w' := by
  have w1 := bounds_u64 w1; have w3 := bounds_u64 w3; have wp := bounds_u8 wp; have wq := bounds_u8 wq
  have hl : ∀ w, Calls Try.prog 84 #[] w fun e w' => e = .returned (.bool true) ∧ Below w.heap.size w w' := fun w => flashlocklaw11_lives.calls 70000100 true w (v4_lives _ (by decide))
  by_cases c0 : 200 < (t.size : Int)
  · exact out0 t a0 a1 a2 a3 a4 a5 a6 a7 p q b w hl (decide_eq_true c0)
  · skip
    by_cases c1 : a0 ≠ 0
    · exact out1 t a0 a1 a2 a3 a4 a5 a6 a7 p q b w hl (decide_eq_false c0) (bne_iff_ne.2 c1)
    · skip
      by_cases c2 : a2 ≠ 0
      · exact out2 t a0 a1 a2 a3 a4 a5 a6 a7 p q b w hl (decide_eq_false c0) (bne_eq_false_iff_eq.2 (Decidable.not_not.1 c1)) (bne_iff_ne.2 c2)
      · skip
        by_cases c3 : 4294967295 < a1
        · exact out3 t a0 a1 a2 a3 a4 a5 a6 a7 p q b w hl (decide_eq_false c0) (bne_eq_false_iff_eq.2 (Decidable.not_not.1 c1)) (bne_eq_false_iff_eq.2 (Decidable.not_not.1 c2)) (decide_eq_true c3)
        · skip
          by_cases c4 : 4294967295 < a3
          · exact out4 t a0 a1 a2 a3 a4 a5 a6 a7 p q b w hl (decide_eq_false c0) (bne_eq_false_iff_eq.2 (Decidable.not_not.1 c1)) (bne_eq_false_iff_eq.2 (Decidable.not_not.1 c2)) (decide_eq_false c3) (decide_eq_true c4)
          · skip
            by_cases c5 : a4 < 0
            · exact out5 t a0 a1 a2 a3 a4 a5 a6 a7 p q b w hl (decide_eq_false c0) (bne_eq_false_iff_eq.2 (Decidable.not_not.1 c1)) (bne_eq_false_iff_eq.2 (Decidable.not_not.1 c2)) (decide_eq_false c3) (decide_eq_false c4) (decide_eq_true c5)
            · skip
              by_cases c6 : 255 < a4
              · exact out6 t a0 a1 a2 a3 a4 a5 a6 a7 p q b w hl (decide_eq_false c0) (bne_eq_false_iff_eq.2 (Decidable.not_not.1 c1)) (bne_eq_false_iff_eq.2 (Decidable.not_not.1 c2)) (decide_eq_false c3) (decide_eq_false c4) (decide_eq_false c5) (decide_eq_true c6)
              · skip
                by_cases c7 : a7 < 0
                · exact out7 t a0 a1 a2 a3 a4 a5 a6 a7 p q b w hl (decide_eq_false c0) (bne_eq_false_iff_eq.2 (Decidable.not_not.1 c1)) (bne_eq_false_iff_eq.2 (Decidable.not_not.1 c2)) (decide_eq_false c3) (decide_eq_false c4) (decide_eq_false c5) (decide_eq_false c6) (decide_eq_true c7)
                · skip
                  by_cases c8 : 8191 < a7
                  · exact out8 t a0 a1 a2 a3 a4 a5 a6 a7 p q b w hl (decide_eq_false c0) (bne_eq_false_iff_eq.2 (Decidable.not_not.1 c1)) (bne_eq_false_iff_eq.2 (Decidable.not_not.1 c2)) (decide_eq_false c3) (decide_eq_false c4) (decide_eq_false c5) (decide_eq_false c6) (decide_eq_false c7) (decide_eq_true c8)
                  · skip
                    have z0 : a0 = 0 := Decidable.not_not.1 c1
                    have z2 : a2 = 0 := Decidable.not_not.1 c2
                    have ht : t.size ≤ 200 := by omega
                    have hm := make_v t ht a0 a1 a2 a3 a4 a5 a6 a7 b (by omega) (by omega) (by omega)
                    obtain ⟨y, y0, y1, y2, y3, y4, y5, y6, y7, y8⟩ := P_tells t ht b a7 a4 a1 a3 (by omega) (by omega) (by omega) (by omega) _ rfl
                    have hless := P_less t ht (if b = true then a7 + 8192 else a7) a4 a1 a3
                    have h1 := turn_one t ht (if b = true then a7 + 8192 else a7) a4 a1 a3
                    have h2 := turn_two t ht (if b = true then a7 + 8192 else a7) a4 a1 a3
                    have hz : (strOfNums (P t (if b = true then a7 + 8192 else a7) a4 a1 a3)).size = t.size + 20 := by rw [strOfNums_size, P_len]; omega
                    have hbn := bnums_of _ (P_by t (if b = true then a7 + 8192 else a7) a4 a1 a3)
                    revert hm y y0 y1 y2 y3 y4 y5 y6 y7 y8 hless h1 h2 hz hbn
                    generalize P t (if b = true then a7 + 8192 else a7) a4 a1 a3 = X
                    intro hm y y0 y1 y2 y3 y4 y5 y6 y7 y8 hless h1 h2 hz hbn
                    have hM : ∀ w, Calls Try.prog 89 #[.agg #[.int .u64 a0, .int .u64 a1, .int .u64 a2, .int .u64 a3, .int .i64 a4, .int .i64 a5, .int .i64 a6, .int .i64 a7, .bool b], .string t] w fun e w' => e = .returned (.string (strOfNums X)) ∧ Below w.heap.size w w' := fun w => ipv4_Make.calls 70000001 a0 a1 a2 a3 a4 a5 a6 a7 b t _ w hm
                    have hP : ∀ w, Calls Try.prog 85 #[.string (strOfNums X)] w fun e w' => e = .returned (.tuple #[.agg #[.int .u64 a0, .int .u64 a1, .int .u64 a2, .int .u64 a3, .int .i64 a4, .int .i64 20, .int .i64 (20 + (t.size : Int)), .int .i64 a7, .bool b], .int .i64 0]) ∧ Below w.heap.size w w' := fun w => by
                      have hc := parse_calls (strOfNums X) w (by omega)
                      rw [y, y0, y1, y2, y3, y4, y5, y6, y7, y8] at hc
                      rw [z0, z2]; exact hc
                    have hD := fun w => parse_none _ w (by rw [ByteArray.size_extract]; omega) hless
                    obtain ⟨pn, rfl⟩ := Int.eq_ofNat_of_zero_le wp.1
                    obtain ⟨qn, rfl⟩ := Int.eq_ofNat_of_zero_le wq.1
                    have hd1 : (pe ((strOfNums X).extract 0 ((strOfNums X).size - 1)) == 0) = false := beq_eq_false_iff_ne.2 hless
                    have hDA := D_all ⟨pn % 152, by omega⟩ ⟨qn % 15, by omega⟩
                    have e1 : 8 + (pn : Int) % 152 = ((8 + pn % 152 : Nat) : Int) := by omega
                    have e2 : ((8 + pn % 152 : Nat) : Int) + 1 + (qn : Int) % 15 = ((8 + pn % 152 + 1 + qn % 15 : Nat) : Int) := by omega
                    have hf1 : 8 ≤ 8 + pn % 152 ∧ 8 + pn % 152 < 160 := by omega
                    have hf2 : 8 ≤ 8 + pn % 152 + 1 + qn % 15 ∧ 8 + pn % 152 + 1 + qn % 15 ≤ 174 := by omega
                    simp only at hDA
                    revert hDA e1 e2 hf1 hf2
                    generalize 8 + pn % 152 + 1 + qn % 15 = g
                    generalize 8 + pn % 152 = f
                    intro hDA e1 e2 hf1 hf2
                    have tm : ∀ n : Nat, ((n : Int)).tmod 8 = ((n % 8 : Nat) : Int) := fun n => by rw [Int.tmod_eq_emod_of_nonneg (by omega)]; omega
                    have sr : ∀ n : Nat, ∀ w, Sem.run Try.prog (Op.shift .shr .u8 128 .i64 (((n : Int)).tmod 8)) w = .ok (.int .u8 (2 ^ (7 - n % 8))) w := fun n w => by
                      rw [tm]; have := shift_run ((n % 8 : Nat) : Int) (by omega) w; rw [Int.toNat_natCast] at this; exact this
                    have sq : ∀ n : Nat, ∀ w, Sem.run Try.prog (Op.shift .shr .u8 128 .i64 ((n : Int) % 8)) w = .ok (.int .u8 (2 ^ (7 - n % 8))) w := fun n w => by
                      rw [show (n : Int) % 8 = ((n % 8 : Nat) : Int) from by omega]; have := shift_run ((n % 8 : Nat) : Int) (by omega) w; rw [Int.toNat_natCast] at this; exact this
                    have dv : ∀ n : Nat, n ≤ 200 → wrap64 (((n : Int)).tdiv 8) = ((n / 8 : Nat) : Int) := fun n hn => by rw [Int.tdiv_eq_ediv_of_nonneg (by omega)]; unfold wrap64; omega
                    have hk : (((strOfNums X).size : Int) != 20 + (t.size : Int)) = false := bne_eq_false_iff_eq.2 (by omega)
                    by_cases hc : (g : Int) < 160
                    · obtain ⟨k1, k2⟩ := h2 f g hf1 (by omega) (by omega)
                      exact near t a0 a1 a2 a3 a4 a5 a6 a7 pn qn b w (strOfNums X) (pe ((strOfNums X).extract 0 ((strOfNums X).size - 1))) f g (2 ^ (7 - f % 8)) (2 ^ (7 - g % 8)) _ (f / 8) (g / 8) hl hM hP hD e1 e2 (by omega) (by omega) (dv f (by omega)) (by omega) (by omega) (sr f) (sq f) (by omega) (by omega) (dv g (by omega)) (by omega) (by omega) (sr g) (sq g) (decide_eq_true hc) (fun w => by rw [hbn]; exact parse_none _ w (by rw [strOfNums_size]; omega) k1) (bne_iff_ne.2 k1) (decide_eq_false c0) (bne_eq_false_iff_eq.2 (Decidable.not_not.1 c1)) (bne_eq_false_iff_eq.2 (Decidable.not_not.1 c2)) (decide_eq_false c3) (decide_eq_false c4) (decide_eq_false c5) (decide_eq_false c6) (decide_eq_false c7) (decide_eq_false c8) hz hk (by omega) (by omega) hd1 ht (by omega) (by omega) (by omega) (by omega)
                    · obtain ⟨k1, k2, k3, k4, k5⟩ := h1 f hf1 (by omega)
                      exact far t a0 a1 a2 a3 a4 a5 a6 a7 pn qn b w (strOfNums X) (pe ((strOfNums X).extract 0 ((strOfNums X).size - 1))) f g (2 ^ (7 - f % 8)) 0 _ (f / 8) 0 hl hM hP hD e1 e2 (by omega) (by omega) (dv f (by omega)) (by omega) (by omega) (sr f) (sq f) (by omega) (by omega) (decide_eq_false hc) (fun w => by rw [hbn]; exact parse_none _ w (by rw [strOfNums_size]; omega) k1) (bne_iff_ne.2 k1) (decide_eq_false c0) (bne_eq_false_iff_eq.2 (Decidable.not_not.1 c1)) (bne_eq_false_iff_eq.2 (Decidable.not_not.1 c2)) (decide_eq_false c3) (decide_eq_false c4) (decide_eq_false c5) (decide_eq_false c6) (decide_eq_false c7) (decide_eq_false c8) hz hk (by omega) (by omega) hd1 ht (by omega) (by omega) (by omega) (by omega)
end Go.Proofs.Ytlnnghbbjbimoaa.Ipv4BL
