/- octets.Reader's methods, each with all its endings. -/
import Derived.Test.YtlnnghbbjbimoaaVar
namespace Go.Proofs.Ytlnnghbbjbimoaa.Reader
open Go Go.RowKit Go.Proofs.Ytlnnghbbjbimoaa.Tries Go.Proofs.YtlnnghbbjbimoaaW.PrintWords Go.Proofs.YtlnnghbbjbimoaaW.PrintLast Go.Proofs.YtlnnghbbjbimoaaW.PrintMore
set_option linter.unusedVariables false
set_option linter.unusedSimpArgs false
theorem grown_lo {w0 w w' : World} {n0 g : Nat} (h : Below n0 w0 w) (hg : w.grownBy w' (some g)) (hl : n0 ≤ g) (hn : n0 ≤ w0.heap.size) : Below n0 w0 w' :=
  h.trans ⟨hg.1, hg.2, hg.3, hg.4, fun k hk => hg.5 k (by have := h.size; omega) (by intro e; injection e; omega)⟩
theorem u8_all (g : Nat) (s : ByteArray) (a : Int) (w : World) (h : Rd w g s a) (hs : s.size < 4611686018427387904) (ha : 0 ≤ a ∧ a ≤ s.size) :
    Calls Try.prog 105 #[.pointer (some ⟨g, 0, none⟩)] w fun e w' => ((a + 1 ≤ s.size ∧ e = .returned (.int .i64 (nm s a 1)) ∧ Rd w' g s (a + 1)) ∨ (¬ a + 1 ≤ s.size ∧ e = .panicked (up 5))) ∧ w.grownBy w' (some g) := by
  by_cases hc : a + 1 ≤ s.size
  · exact (u8_ok g s a w h hs ⟨ha.1, hc⟩).mono fun e w' ⟨h1, h2, h3⟩ => ⟨.inl ⟨hc, h1, h2⟩, h3⟩
  · exact (u8_short g s a w h hs ⟨ha.1, ha.2, by omega⟩).mono fun e w' ⟨h1, h2⟩ => ⟨.inr ⟨hc, h1⟩, grown_below h2 _⟩
theorem u32_all (g : Nat) (s : ByteArray) (a : Int) (w : World) (h : Rd w g s a) (hs : s.size < 4611686018427387904) (ha : 0 ≤ a ∧ a ≤ s.size) :
    Calls Try.prog 108 #[.pointer (some ⟨g, 0, none⟩)] w fun e w' => ((a + 4 ≤ s.size ∧ e = .returned (.int .i64 (nm s a 4)) ∧ Rd w' g s (a + 4)) ∨ (¬ a + 4 ≤ s.size ∧ e = .panicked (up 5))) ∧ w.grownBy w' (some g) := by
  by_cases hc : a + 4 ≤ s.size
  · exact (u32_ok g s a w h hs ⟨ha.1, hc⟩).mono fun e w' ⟨h1, h2, h3⟩ => ⟨.inl ⟨hc, h1, h2⟩, h3⟩
  · exact (u32_short g s a w h hs ⟨ha.1, ha.2, by omega⟩).mono fun e w' ⟨h1, h2⟩ => ⟨.inr ⟨hc, h1⟩, grown_below h2 _⟩
theorem end_all (g : Nat) (s : ByteArray) (a : Int) (w : World) (h : Rd w g s a) (hs : s.size < 4611686018427387904) (ha : 0 ≤ a ∧ a ≤ s.size) :
    Calls Try.prog 65 #[.pointer (some ⟨g, 0, none⟩)] w fun e w' => ((a = s.size ∧ e = .returned (.tuple #[])) ∨ (¬ a = s.size ∧ e = .panicked (up 4))) ∧ Below w.heap.size w w' := by
  by_cases hc : a = s.size
  · exact (end_ok g s w (hc ▸ h) hs).mono fun e w' ⟨h1, h2⟩ => ⟨.inl ⟨hc, h1⟩, h2⟩
  · exact (end_long g s a w h (by omega) hs).mono fun e w' ⟨h1, h2⟩ => ⟨.inr ⟨hc, h1⟩, h2⟩
/-- a number's code at a: how many bytes, why it is none, its value -/
def vN (s : ByteArray) (a : Int) : Int := spn s a 10 0
def vE (s : ByteArray) (a : Int) : Int :=
  if vN s a = -5 then 5 else if vN s a ≤ 0 then 6 else if (vN s a = 10 ∧ 2 ≤ bt s (a + vN s a - 1)) ∨ (1 < vN s a ∧ bt s (a + vN s a - 1) = 0) then 6 else 0
def vV (s : ByteArray) (a : Int) : Int := uz (vl (s.extract a.toNat (a + vN s a).toNat) (vN s a).toNat 0)
theorem spn_neg (s : ByteArray) (a : Int) : ∀ (d : Nat) (k : Int), 0 ≤ k → spn s a d k ≤ 0 → spn s a d k = -5 ∨ spn s a d k = -6
  | 0, k, _, h => .inr rfl
  | d + 1, k, h0, h => by
    simp only [spn] at h ⊢
    by_cases h1 : (s.size : Int) - a ≤ k
    · rw [if_pos h1]; exact .inl rfl
    · rw [if_neg h1] at h ⊢
      by_cases h2 : bt s (a + k) < 128
      · rw [if_pos h2] at h; omega
      · rw [if_neg h2] at h ⊢
        exact spn_neg s a d (k + 1) (by omega) h
theorem var_all (g : Nat) (s : ByteArray) (a : Int) (w : World) (h : Rd w g s a) (hs : s.size < 4611686018427387904) (ha : 0 ≤ a ∧ a ≤ s.size) :
    Calls Try.prog 62 #[.pointer (some ⟨g, 0, none⟩)] w fun e w' => (((vE s a = 0 ∧ 0 ≤ a + vN s a ∧ a + vN s a ≤ s.size) ∧ e = .returned (.int .i64 (vV s a)) ∧ Rd w' g s (a + vN s a)) ∨ (vE s a ≠ 0 ∧ e = .panicked (up (vE s a)))) ∧ w.grownBy w' (some g) := by
  by_cases hp : 0 < vN s a
  · obtain ⟨l1, l2, l3⟩ := spn_le s a 10 0 (by omega) hp
    have hN : spn s a 10 0 = vN s a := rfl
    rw [hN] at l1 l2 l3
    obtain ⟨n, hn⟩ := Int.eq_ofNat_of_zero_le (show 0 ≤ vN s a by omega)
    have hn' : spn s a 10 0 = (n : Int) := by rw [hN, hn]
    have hz : (s.extract a.toNat (a + (n : Int)).toNat).size = n := by rw [ByteArray.size_extract]; omega
    have hlast : bt (s.extract a.toNat (a + (n : Int)).toNat) ((n : Int) - 1) = bt s (a + n - 1) := by
      have := bt_ext s a.toNat (a + (n : Int)).toNat (n - 1) (by omega) (by omega)
      rw [show ((n - 1 : Nat) : Int) = (n : Int) - 1 from by omega] at this
      rw [this]; congr 1; omega
    have hb := bt_r s (a + n - 1)
    have h0 : 0 < n ∧ n ≤ 10 ∧ a + n ≤ s.size := by omega
    unfold vE vV
    rw [hn]
    by_cases h1 : n = 1
    · refine (var_a g s _ a n w h ha hs hn' rfl hz h0 h1).mono fun e w' ⟨e1, e2, e3⟩ => ⟨.inl ⟨⟨?_, by omega, by omega⟩, e1, e2⟩, e3⟩
      rw [if_neg (by omega), if_neg (by omega), if_neg (by omega)]
    · by_cases h10 : n = 10
      · by_cases hl : 2 ≤ bt s (a + n - 1)
        · refine (var_d g s _ a n w h ha hs hn' rfl hz h0 ⟨h10, by rw [hlast]; exact hl⟩).mono fun e w' ⟨e1, e2⟩ => ⟨.inr ?_, e2⟩
          rw [if_neg (by omega), if_neg (by omega), if_pos (.inl ⟨by omega, hl⟩)]
          exact ⟨by decide, e1⟩
        · by_cases hz0 : bt s (a + n - 1) = 0
          · refine (var_f g s _ a n w h ha hs hn' rfl hz h0 ⟨h10, by rw [hlast]; exact hz0⟩).mono fun e w' ⟨e1, e2⟩ => ⟨.inr ?_, e2⟩
            rw [if_neg (by omega), if_neg (by omega), if_pos (.inr ⟨by omega, hz0⟩)]
            exact ⟨by decide, e1⟩
          · refine (var_c g s _ a n w h ha hs hn' rfl hz h0 ⟨h10, by rw [hlast]; omega, by rw [hlast]; omega⟩).mono fun e w' ⟨e1, e2, e3⟩ => ⟨.inl ⟨⟨?_, by omega, by omega⟩, e1, e2⟩, e3⟩
            rw [if_neg (by omega), if_neg (by omega), if_neg (by omega)]
      · by_cases hz0 : bt s (a + n - 1) = 0
        · refine (var_e g s _ a n w h ha hs hn' rfl hz h0 ⟨by omega, by omega, by rw [hlast]; exact hz0⟩).mono fun e w' ⟨e1, e2⟩ => ⟨.inr ?_, e2⟩
          rw [if_neg (by omega), if_neg (by omega), if_pos (.inr ⟨by omega, hz0⟩)]
          exact ⟨by decide, e1⟩
        · refine (var_b g s _ a n w h ha hs hn' rfl hz h0 ⟨by omega, by omega, by rw [hlast]; omega⟩).mono fun e w' ⟨e1, e2, e3⟩ => ⟨.inl ⟨⟨?_, by omega, by omega⟩, e1, e2⟩, e3⟩
          rw [if_neg (by omega), if_neg (by omega), if_neg (by omega)]
  · have hv := spn_neg s a 10 0 (by omega) (show spn s a 10 0 ≤ 0 by unfold vN at hp; omega)
    rcases hv with hv | hv
    · refine (var_up g s a 5 w h ha hs hv (.inl rfl)).mono fun e w' ⟨e1, e2⟩ => ⟨.inr ?_, e2⟩
      unfold vE vN; rw [hv, if_pos rfl]; exact ⟨by decide, e1⟩
    · refine (var_up g s a 6 w h ha hs hv (.inr rfl)).mono fun e w' ⟨e1, e2⟩ => ⟨.inr ?_, e2⟩
      unfold vE vN; rw [hv, if_neg (by decide), if_pos (by decide)]; exact ⟨by decide, e1⟩
end Go.Proofs.Ytlnnghbbjbimoaa.Reader
