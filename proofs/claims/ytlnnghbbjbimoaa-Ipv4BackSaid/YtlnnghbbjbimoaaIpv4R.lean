/- The document's Parse of an IPv4 header answers what ipv4.Parse answers. -/
import Derived.Test.YtlnnghbbjbimoaaIpv4P
import Derived.Test.YtlnnghbbjbimoaaNumV
import Derived.Test.YtlnnghbbjbimoaaPVx5
namespace Go.Proofs.Ytlnnghbbjbimoaa.Ipv4R
open Go Go.RowKit Go.Proofs.Ytlnnghbbjbimoaa.PV Go.Proofs.Ytlnnghbbjbimoaa.Reader Go.Proofs.Ytlnnghbbjbimoaa.PNum Go.Proofs.Ytlnnghbbjbimoaa.Num Go.Proofs.Ytlnnghbbjbimoaa.NumV Go.Proofs.Ytlnnghbbjbimoaa.Ipv4S Go.Proofs.Ytlnnghbbjbimoaa.Ipv4P Go.Proofs.YtlnnghbbjbimoaaW.PrintWords Go.Proofs.YtlnnghbbjbimoaaW.PrintLast Go.Proofs.YtlnnghbbjbimoaaW.PrintMore
set_option linter.unusedVariables false
set_option linter.unusedSimpArgs false
theorem nm2 (s : ByteArray) (i : Int) : nm s i 2 = 256 * bt s i + bt s (i + 1) := by
  simp only [nm]
  rw [show i + ((0 : Nat) : Int) = i from by omega, show i + ((0 + 1 : Nat) : Int) = i + 1 from by omega]
  omega
theorem nm1 (s : ByteArray) (i : Int) : nm s i 1 = bt s i := by
  simp only [nm]
  rw [show i + ((0 : Nat) : Int) = i from by omega]
  omega
theorem two_s (k : Nat) (hk : 3 ≤ k) (s : ByteArray) (hs : s.size ≤ 1000) (i : Nat) (hi : i + 1 < s.size) : flashlockref11_Two.f k s i = some (nm s i 2) := by
  have h := two_v k (bnums s) (bn_by s) (by rw [bn_length]; exact hs) i (by rw [bn_length]; omega) hk
  rw [bn_str, bn_at, dif_pos (by rw [bn_length]; exact hi), bn_at] at h
  rw [h, nm2]; rfl
theorem of4 (k : Nat) (hk : 20 ≤ k) (s : ByteArray) (a : Nat) (ha : a + 4 ≤ s.size) : flashlockref10_Of.f k (s.extract a (a + 4)) = some (0, nm s a 4, 4, true) := by
  have hz : (s.extract a (a + 4)).size = 4 := by rw [ByteArray.size_extract]; omega
  obtain ⟨y, z, h⟩ := num_all k hk (s.extract a (a + 4)) (by omega)
  unfold flashlockref10_Of.f flashlockref10_number.f
  rw [if_pos (by omega), h, hz, nm_ext s a (a + 4) ha 4 (by omega)]
  rfl
theorem refParse_v (k : Nat) (hk : 3000 ≤ k) (s : ByteArray) (hs : s.size ≤ 1000) : flashlockref11_Parse.f k s = some (pv s 0, pv s 1, pv s 2, pv s 3, pv s 4, pv s 5, pv s 6, pv s 7, pm s, pe s) := by
  have hb := bt_r s 0
  have n1 := nm1 s 0
  have hps := pst_range s
  have ep : wrap64 (4 * (wrap64 (Int.tmod (bt s 0) 16))) = pst s := by
    rw [Int.tmod_eq_emod_of_nonneg hb.1, owr (x := bt s 0 % 16) (by omega), owr (by omega)]; unfold pst; rw [n1]; omega
  have hbad : ∀ er, pe s = er → er ≠ 0 → some (pv s 0, pv s 1, pv s 2, pv s 3, pv s 4, pv s 5, pv s 6, pv s 7, pm s, pe s) = some (0, 0, 0, 0, 0, 0, 0, 0, false, er) := by
    intro er h1 h2
    have hv : ∀ i, pv s i = 0 := fun i => by unfold pv; rw [if_neg (by rw [h1]; exact h2)]
    have hm : pm s = false := by unfold pm; rw [if_neg (by rw [h1]; exact h2)]
    simp only [hv, hm, h1]
  obtain ⟨k, rfl⟩ : ∃ m, k = m + 2 := ⟨k - 2, by omega⟩
  unfold flashlockref11_Parse.f
  by_cases c0 : (s.size : Int) < 20
  · rw [if_pos c0, hbad 5 (by unfold pe; rw [if_pos c0]) (by decide)]
  · rw [if_neg c0, if_pos (by omega), Int.tdiv_eq_ediv_of_nonneg hb.1, show bt s 0 / 16 % 256 = nm s 0 1 / 16 from by rw [n1]; omega]
    by_cases c1 : nm s 0 1 / 16 ≠ 4
    · rw [if_neg c1, hbad 22 (by unfold pe; rw [if_neg c0, if_pos c1]) (by decide)]
    · have h2 := two_s (k + 2) (by omega) s hs 2 (by omega)
      rw [show ((2 : Nat) : Int) = 2 from rfl] at h2
      rw [if_pos (by omega), h2, Option.bind_some, ep]
      have j23 : pst s < 20 ∨ (s.size : Int) < pst s → pe s = 23 := fun h => by unfold pe; rw [if_neg c0, if_neg c1, if_pos h]
      by_cases c2 : pst s < 20
      · rw [if_pos c2]
        simp only [flashlockref11_Parse.j0]
        rw [if_pos trivial, hbad 23 (j23 (.inl c2)) (by decide)]
      · rw [if_neg c2]
        by_cases c3 : (s.size : Int) < pst s
        · rw [show decide (pst s > (s.size : Int)) = true from decide_eq_true c3]
          simp only [flashlockref11_Parse.j0]
          rw [if_pos trivial, hbad 23 (j23 (.inr c3)) (by decide)]
        · rw [show decide (pst s > (s.size : Int)) = false from decide_eq_false c3]
          simp only [flashlockref11_Parse.j0]
          rw [if_neg (by decide)]
          have j6 : nm s 2 2 < pst s ∨ (s.size : Int) < nm s 2 2 → pe s = 6 := fun h => by unfold pe; rw [if_neg c0, if_neg c1, if_neg (by omega), if_pos h]
          by_cases c4 : nm s 2 2 < pst s
          · rw [if_pos c4]
            simp only [flashlockref11_Parse.j1]
            rw [if_pos trivial, hbad 6 (j6 (.inl c4)) (by decide)]
          · rw [if_neg c4]
            by_cases c5 : (s.size : Int) < nm s 2 2
            · rw [show decide (nm s 2 2 > (s.size : Int)) = true from decide_eq_true c5]
              simp only [flashlockref11_Parse.j1]
              rw [if_pos trivial, hbad 6 (j6 (.inr c5)) (by decide)]
            · rw [show decide (nm s 2 2 > (s.size : Int)) = false from decide_eq_false c5]
              simp only [flashlockref11_Parse.j1]
              have hsm := rsum_str k (s.extract 0 (pst s).toNat) (by rw [ByteArray.size_extract]; omega) (by omega)
              rw [if_neg (by decide), if_pos (by omega), if_pos (by omega), hsm, Option.bind_some]
              by_cases c6 : sum (s.extract 0 (pst s).toNat) ≠ 0
              · rw [if_neg c6, hbad 24 (by unfold pe; rw [if_neg c0, if_neg c1, if_neg (by omega), if_neg (by omega), if_pos c6]) (by decide)]
              · have h0 : pe s = 0 := by unfold pe; rw [if_neg c0, if_neg c1, if_neg (by omega), if_neg (by omega), if_neg c6]
                have o1 := of4 k (by omega) s 12 (by omega)
                have o2 := of4 k (by omega) s 16 (by omega)
                have h6 := two_s k (by omega) s hs 6 (by omega)
                rw [show ((6 : Nat) : Int) = 6 from rfl] at h6
                rw [if_pos (by omega), if_pos (by decide), if_pos (by omega), o1, Option.bind_some, if_pos (by decide), if_pos (by omega), o2, Option.bind_some, h6, Option.bind_some, if_pos (by omega)]
                have hf := nm_range s 6 2
                have hv : ∀ i, pv s i = (match i with | 1 => nm s 12 4 | 3 => nm s 16 4 | 4 => nm s 9 1 | 5 => pst s | 6 => nm s 2 2 | 7 => nm s 6 2 % 8192 | _ => 0) := fun i => by unfold pv; rw [if_pos h0]; rfl
                have hm : pm s = (nm s 6 2 / 8192 % 2 == 1) := by unfold pm; rw [if_pos h0]
                have h9 := bt_r s 9
                simp only [hv, hm, h0]
                rw [Int.tmod_eq_emod_of_nonneg hf.1, Int.tdiv_eq_ediv_of_nonneg hf.1, owr (x := nm s 6 2 / 8192) (by omega), Int.tmod_eq_emod_of_nonneg (by omega), owr (x := bt s 9) (by omega), nm1 s 9]
                rfl
end Go.Proofs.Ytlnnghbbjbimoaa.Ipv4R
