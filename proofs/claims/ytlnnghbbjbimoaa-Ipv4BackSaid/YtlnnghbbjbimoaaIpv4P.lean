/- What ipv4.Parse answers, and the document's Parse. -/
import Derived.Test.YtlnnghbbjbimoaaIpv4S
import Derived.Test.YtlnnghbbjbimoaaIpv4Clo
import Derived.Test.YtlnnghbbjbimoaaNum
import Derived.Test.YtlnnghbbjbimoaaPVx1
import Derived.Test.YtlnnghbbjbimoaaPVx4
import Derived.Test.YtlnnghbbjbimoaaPVx5
import Derived.Test.YtlnnghbbjbimoaaPVx3
namespace Go.Proofs.Ytlnnghbbjbimoaa.Ipv4P
open Go Go.RowKit Go.Proofs.Ytlnnghbbjbimoaa.PV Go.Proofs.Ytlnnghbbjbimoaa.Reader Go.Proofs.Ytlnnghbbjbimoaa.PNum Go.Proofs.Ytlnnghbbjbimoaa.Num Go.Proofs.Ytlnnghbbjbimoaa.Ipv4S Go.Proofs.Ytlnnghbbjbimoaa.Ipv4Clo Go.Proofs.YtlnnghbbjbimoaaW.PrintWords Go.Proofs.YtlnnghbbjbimoaaW.PrintLast Go.Proofs.YtlnnghbbjbimoaaW.PrintMore
set_option linter.unusedVariables false
set_option linter.unusedSimpArgs false
/-- the bytes of a text -/
def bnums (q : ByteArray) : List Int := q.data.toList.map (fun b => (b.toNat : Int))
theorem bn_length (q : ByteArray) : (bnums q).length = q.size := by simp [bnums]
theorem bn_by (q : ByteArray) : By (bnums q) := by
  intro x hx
  simp only [bnums, List.mem_map] at hx
  obtain ⟨b, _, rfl⟩ := hx
  have := b.toNat_lt
  omega
theorem bn_str (q : ByteArray) : strOfNums (bnums q) = q := by
  apply ByteArray.ext
  apply Array.ext'
  simp [strOfNums, bnums, Function.comp_def]
theorem bn_at (q : ByteArray) (i : Nat) (h : i < (bnums q).length) : (bnums q)[i] = bt q (i : Int) := by
  have h' : i < q.size := by rw [← bn_length]; exact h
  unfold bt
  rw [dif_pos (by omega)]
  simp [bnums, ByteArray.getElem_eq_getElem_data]
theorem and15 (x : Int) (h : 0 ≤ x ∧ x ≤ 255) : Go.bits .and .i64 x 15 = x % 16 := by
  have := and_low .i64 x 4 (by decide) (.inl rfl) wi
  rw [show (2 : Int) ^ 4 - 1 = 15 by decide, show (2 : Int) ^ 4 = 16 by decide] at this
  rw [this]; omega
theorem and8192 (x : Int) (h : 0 ≤ x ∧ x ≤ 65535) : (Go.bits .and .i64 x 8192 != 0) = (x / 8192 % 2 == 1) := by
  obtain ⟨n, rfl⟩ := Int.eq_ofNat_of_zero_le h.1
  have hn : n ≤ 65535 := by omega
  have e : (BitVec.ofInt 64 (n : Int) &&& BitVec.ofInt 64 ((8192 : Nat) : Int)).toNat = n / 8192 % 2 * 8192 := by
    rw [BitVec.ofInt_natCast, BitVec.ofInt_natCast, BitVec.toNat_and, BitVec.toNat_ofNat, BitVec.toNat_ofNat, Nat.mod_eq_of_lt (by simp only [Nat.reducePow]; omega), Nat.mod_eq_of_lt (by decide)]
    have ht : n.testBit 13 = decide (n / 8192 % 2 = 1) := Nat.testBit_eq_decide_div_mod_eq
    have h2 : ∀ i, Nat.testBit 8192 i = decide (13 = i) := fun i => by rw [show (8192 : Nat) = 2 ^ 13 from rfl, Nat.testBit_two_pow]
    by_cases c : n / 8192 % 2 = 1
    · rw [c]
      apply Nat.eq_of_testBit_eq
      intro i
      rw [Nat.testBit_and, Nat.one_mul, h2]
      by_cases hi : 13 = i
      · subst hi; rw [ht]; simp [c]
      · simp [hi]
    · rw [show n / 8192 % 2 = 0 from by omega]
      apply Nat.eq_of_testBit_eq
      intro i
      rw [Nat.testBit_and, h2, Nat.zero_mul, Nat.zero_testBit]
      by_cases hi : 13 = i
      · subst hi; rw [ht]; simp [c]
      · simp [hi]
  have e3 : Go.bits .and .i64 (n : Int) 8192 = IntKind.i64.wrap (((BitVec.ofInt 64 (n : Int) &&& BitVec.ofInt 64 ((8192 : Nat) : Int)).toNat : Nat) : Int) := rfl
  rw [e3, e, wi _ (by omega) (by omega)]
  by_cases c : n / 8192 % 2 = 1
  · rw [c]; have : ((n : Int) / 8192 % 2 == 1) = true := by rw [beq_iff_eq]; omega
    rw [this]; rfl
  · rw [show n / 8192 % 2 = 0 from by omega]; have : ((n : Int) / 8192 % 2 == 1) = false := by rw [beq_eq_false_iff_ne]; omega
    rw [this]; rfl
def pst (s : ByteArray) : Int := nm s 0 1 % 16 * 4
def sum (q : ByteArray) : Int := 65535 - fd (ws (bnums q))
/-- the error -/
def pe (s : ByteArray) : Int :=
  if (s.size : Int) < 20 then 5 else if nm s 0 1 / 16 ≠ 4 then 22 else if pst s < 20 ∨ (s.size : Int) < pst s then 23 else if nm s 2 2 < pst s ∨ (s.size : Int) < nm s 2 2 then 6 else if sum (s.extract 0 (pst s).toNat) ≠ 0 then 24 else 0
/-- the header's numbers, and whether more follow -/
def pv (s : ByteArray) (i : Nat) : Int := if pe s = 0 then (match i with | 1 => nm s 12 4 | 3 => nm s 16 4 | 4 => nm s 9 1 | 5 => pst s | 6 => nm s 2 2 | 7 => nm s 6 2 % 8192 | _ => 0) else 0
def pm (s : ByteArray) : Bool := if pe s = 0 then (nm s 6 2 / 8192 % 2 == 1) else false
theorem sum_str (k : Nat) (q : ByteArray) (hq : q.size ≤ 1000) (hk : 70000000 ≤ k) : ipv4_Sum.f k q = some (sum q) := by
  have h := sum_v k (bnums q) (bn_by q) (by rw [bn_length]; exact hq) hk
  rw [bn_str] at h
  exact h
theorem rsum_str (k : Nat) (q : ByteArray) (hq : q.size ≤ 1000) (hk : 2000 ≤ k) : flashlockref11_Sum.f k q = some (sum q) := by
  have h := rsum_v k (bnums q) (bn_by q) (by rw [bn_length]; exact hq) hk
  rw [bn_str] at h
  exact h
theorem pst_range (s : ByteArray) : 0 ≤ pst s ∧ pst s ≤ 60 := by unfold pst; have := nm_range s 0 1; omega
theorem parse_calls (s : ByteArray) (w : World) (hs : s.size ≤ 1000) :
    Calls Try.prog 85 #[.string s] w fun e w' => e = .returned (.tuple #[.agg #[.int .u64 (pv s 0), .int .u64 (pv s 1), .int .u64 (pv s 2), .int .u64 (pv s 3), .int .i64 (pv s 4), .int .i64 (pv s 5), .int .i64 (pv s 6), .int .i64 (pv s 7), .bool (pm s)], .int .i64 (pe s)]) ∧ Below w.heap.size w w' := by
  have hb := nm_range s 0 1
  have hst : wrap64 (bits .and .i64 (nm s 0 1) 15 * 4) = pst s := by rw [and15 _ (by omega), owr (by omega)]; rfl
  have hps := pst_range s
  have bad : ∀ er : Int, pe s = er → er ≠ 0 → (∀ (n0 g be bs bx bf : Nat) (w : World), Env s n0 g be bs bx bf w → Calls Try.prog 127 #[.pointer (some ⟨g, 0, none⟩), .pointer (some ⟨bs, 0, none⟩), .pointer (some ⟨bx, 0, none⟩), .pointer (some ⟨bf, 0, none⟩)] w fun e w' => PostBad er n0 be w e w') → Calls Try.prog 85 #[.string s] w fun e w' => e = .returned (.tuple #[.agg #[.int .u64 (pv s 0), .int .u64 (pv s 1), .int .u64 (pv s 2), .int .u64 (pv s 3), .int .i64 (pv s 4), .int .i64 (pv s 5), .int .i64 (pv s 6), .int .i64 (pv s 7), .bool (pm s)], .int .i64 (pe s)]) ∧ Below w.heap.size w w' := by
    intro er h1 h2 hclo
    have hv : ∀ i, pv s i = 0 := fun i => by unfold pv; rw [if_neg (by rw [h1]; exact h2)]
    have hm : pm s = false := by unfold pm; rw [if_neg (by rw [h1]; exact h2)]
    simp only [hv, hm, h1]
    exact get_bad s w er (beq_eq_false_iff_ne.2 h2) hclo
  by_cases c0 : (s.size : Int) < 20
  · exact bad 5 (by unfold pe; rw [if_pos c0]) (by decide) (fun n0 g be bs bx bf w E => bad0 s n0 g be bs bx bf w E (by omega) (decide_eq_false (by omega)))
  · have t0 : decide (20 ≤ (s.size : Int)) = true := decide_eq_true (by omega)
    by_cases c1 : nm s 0 1 / 16 ≠ 4
    · exact bad 22 (by unfold pe; rw [if_neg c0, if_pos c1]) (by decide) (fun n0 g be bs bx bf w E => bad1 s n0 g be bs bx bf w E (by omega) t0 (beq_eq_false_iff_ne.2 c1))
    · have t1 : (nm s 0 1 / 16 == 4) = true := beq_iff_eq.2 (by omega)
      by_cases c2 : pst s < 20
      · exact bad 23 (by unfold pe; rw [if_neg c0, if_neg c1, if_pos (.inl c2)]) (by decide) (fun n0 g be bs bx bf w E => bad2 s n0 g be bs bx bf (pst s) w E (by omega) t0 t1 (decide_eq_false (by omega)) hst)
      · have t2 : decide (20 ≤ pst s) = true := decide_eq_true (by omega)
        by_cases c3 : (s.size : Int) < pst s
        · exact bad 23 (by unfold pe; rw [if_neg c0, if_neg c1, if_pos (.inr c3)]) (by decide) (fun n0 g be bs bx bf w E => bad3 s n0 g be bs bx bf (pst s) w E (by omega) t0 t1 t2 (decide_eq_false (by omega)) hst)
        · have t3 : decide (pst s ≤ (s.size : Int)) = true := decide_eq_true (by omega)
          by_cases c4 : nm s 2 2 < pst s
          · exact bad 6 (by unfold pe; rw [if_neg c0, if_neg c1, if_neg (by omega), if_pos (.inl c4)]) (by decide) (fun n0 g be bs bx bf w E => bad4 s n0 g be bs bx bf (pst s) w E (by omega) t0 t1 t2 t3 (decide_eq_false (by omega)) hst)
          · have t4 : decide (pst s ≤ nm s 2 2) = true := decide_eq_true (by omega)
            by_cases c5 : (s.size : Int) < nm s 2 2
            · exact bad 6 (by unfold pe; rw [if_neg c0, if_neg c1, if_neg (by omega), if_pos (.inr c5)]) (by decide) (fun n0 g be bs bx bf w E => bad5 s n0 g be bs bx bf (pst s) w E (by omega) t0 t1 t2 t3 t4 (decide_eq_false (by omega)) hst (by omega) (by omega))
            · have t5 : decide (nm s 2 2 ≤ (s.size : Int)) = true := decide_eq_true (by omega)
              have hsum : ∀ w, Calls Try.prog 87 #[.string (s.extract 0 (pst s).toNat)] w fun e w' => e = .returned (.int .i64 (sum (s.extract 0 (pst s).toNat))) ∧ Below w.heap.size w w' := fun w => (ipv4_Sum.calls 70000000 (s.extract 0 (pst s).toNat) _ w (sum_str 70000000 _ (by rw [ByteArray.size_extract]; omega) (Nat.le_refl _))).mono (fun e w' h => ⟨h.1, h.2.below⟩)
              by_cases c6 : sum (s.extract 0 (pst s).toNat) ≠ 0
              · exact bad 24 (by unfold pe; rw [if_neg c0, if_neg c1, if_neg (by omega), if_neg (by omega), if_pos c6]) (by decide) (fun n0 g be bs bx bf w E => bad6 s n0 g be bs bx bf (pst s) _ w E (by omega) t0 t1 t2 t3 t4 t5 (beq_eq_false_iff_ne.2 c6) hst (by omega) (by omega) hsum)
              · have h0 : pe s = 0 := by unfold pe; rw [if_neg c0, if_neg c1, if_neg (by omega), if_neg (by omega), if_neg c6]
                have hf := nm_range s 6 2
                have hv : ∀ i, pv s i = (match i with | 1 => nm s 12 4 | 3 => nm s 16 4 | 4 => nm s 9 1 | 5 => pst s | 6 => nm s 2 2 | 7 => nm s 6 2 % 8192 | _ => 0) := fun i => by unfold pv; rw [if_pos h0]
                have hm : pm s = (nm s 6 2 / 8192 % 2 == 1) := by unfold pm; rw [if_pos h0]
                simp only [hv, hm, h0]
                refine get_good s w _ _ _ _ _ _ _ _ _ (fun n0 g be bs bx bf w E => good s n0 g be bs bx bf (pst s) _ _ _ w E (by omega) t0 t1 t2 t3 t4 t5 (beq_iff_eq.2 (Decidable.not_not.1 c6)) hst (by omega) (by omega) hsum (and13 _) (and8192 _ (by omega)))
end Go.Proofs.Ytlnnghbbjbimoaa.Ipv4P
