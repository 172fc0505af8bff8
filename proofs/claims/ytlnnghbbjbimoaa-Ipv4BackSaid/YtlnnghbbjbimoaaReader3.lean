/- octets.Reader's span and Var, walked. -/
import Derived.Test.YtlnnghbbjbimoaaReader2
import Derived.StillTailTactics
import Derived.Deep.RegionHeld3
import Derived.Deep.QuietTactic
import Derived.BigQuiet
namespace Go.Proofs.Ytlnnghbbjbimoaa.Reader
open Go Go.RowKit Go.Proofs.Ytlnnghbbjbimoaa.Tries Go.Proofs.YtlnnghbbjbimoaaW.PrintWords Go.Proofs.YtlnnghbbjbimoaaW.PrintLast Go.Proofs.YtlnnghbbjbimoaaW.PrintMore
set_option linter.unusedVariables false
set_option linter.unusedSimpArgs false
/-- how many bytes the number has that stands at a: 0 < n; -5: the bytes end; -6: no end in ten -/
def spn (s : ByteArray) (a : Int) : Nat → Int → Int
  | 0, _ => -6
  | d + 1, k => if (s.size : Int) - a ≤ k then -5 else if bt s (a + k) < 128 then k + 1 else spn s a d (k + 1)
set_option maxRecDepth 100000 in
set_option maxHeartbeats 2000000 in
theorem span_all (g : Nat) (s : ByteArray) (a : Int) (w : World) (h : Rd w g s a) (ha : 0 ≤ a ∧ a ≤ s.size) (hs : s.size < 4611686018427387904) :
    Calls Try.prog 120 #[.pointer (some ⟨g, 0, none⟩)] w fun e w' => (0 < spn s a 10 0 → e = .returned (.int .i64 (spn s a 10 0))) ∧ (spn s a 10 0 = -5 → e = .panicked (up 5)) ∧ (spn s a 10 0 = -6 → e = .panicked (up 6)) ∧ Below w.heap.size w w' := by
  have hmf := hmf
  have H := Lib.hid h; clear h
  go_enter Try.func120, Try.ntmps120
  go_wp2_with fail
  go_loopg [4] 10 (fun k n wr => ∃ j : Nat, Hid (j + k = 10) ∧ n = .int .i64 (j : Int) ∧ Hid (spn s a k j = spn s a 10 0) ∧ Hid (Below w.heap.size w wr))
  case atStart => exact ⟨0, Lib.hid (by omega), rfl, Lib.hid rfl, Lib.hid (Below.refl _ _)⟩
  case round =>
    obtain ⟨j, HJ, rfl, HE, HB⟩ := hrel
    have HR := Lib.hid (H.out.below HB.out)
    by_cases hlt : (j : Int) < 10
    · have h1 : decide ((j : Int) < 10) = true := decide_eq_true hlt
      by_cases hsh : (s.size : Int) - a ≤ j
      · have h2 : decide ((s.size : Int) - a ≤ j) = true := decide_eq_true hsh
        go_wp2_with (first | (go_at_call 103; with_reducible refine (need_no _ 5 _ rfl).mono ?_; rintro e w9 ⟨rfl, hb9⟩; have B9 := Lib.hid (B1.out.trans (hb9.mono B1.out.size)); clear hb9) | (go_at_call 51; refine (left_ok g s a _ HR.out ha (by omega)).mono ?_; rintro e w1 ⟨rfl, hb⟩; have B1 := Lib.hid (HB.out.trans (hb.mono HB.out.size)); clear hb))
        have hv : spn s a 10 0 = -5 := by
          rw [← HE.out]
          obtain ⟨k, hk⟩ : ∃ k, gk = k + 1 := ⟨gk - 1, by have := HJ.out; omega⟩
          rw [hk]; simp only [spn]; rw [if_pos hsh]
        simp [bodyPost, hv]
        exact B9.out
      · have h2 : decide ((s.size : Int) - a ≤ j) = false := decide_eq_false hsh
        go_wp2_with (go_at_call 51; refine (left_ok g s a _ HR.out ha (by omega)).mono ?_; rintro e w1 ⟨rfl, hb⟩; have B1 := Lib.hid (HB.out.trans (hb.mono HB.out.size)); have HR1 := Lib.hid (HR.out.below hb); have c0 := HR1.out.c0; have c1 := HR1.out.c1; clear hb)
        have hi : 0 ≤ a + (j : Int) ∧ a + (j : Int) < (s.size : Int) := by omega
        have hw : IntKind.i64.wrap (a + (j : Int)) = a + (j : Int) := by simp [IntKind.wrap, IntKind.bits, IntKind.signed]; omega
        have hbt : ((s[(a + (j : Int)).toNat]'(by omega)).toNat : Int) = bt s (a + j) := by
          unfold bt; rw [dif_pos (by omega)]
        by_cases hc : bt s (a + j) < 128
        · have h3 : decide (bt s (a + (j : Int)) < 128) = true := decide_eq_true hc
          have HBT := Lib.hid hbt
          go_region
          go_wp2
          go_ret
          have hv : spn s a 10 0 = j + 1 := by
            rw [← HE.out]
            obtain ⟨k, hk⟩ : ∃ k, gk = k + 1 := ⟨gk - 1, by have := HJ.out; omega⟩
            rw [hk]; simp only [spn]; rw [if_neg (by omega), if_pos hc]
          rw [hv]
          refine ⟨fun _ => ?_, fun h => by omega, fun h => by omega, B1.out.drew⟩
          first | rfl | (simp; done) | (congr 2; unfold wrap64; omega)
        · have h3 : decide (bt s (a + (j : Int)) < 128) = false := decide_eq_false hc
          have HBT := Lib.hid hbt
          obtain ⟨k, hk⟩ : ∃ k, gk = k + 1 := ⟨gk - 1, by have := HJ.out; omega⟩
          have hv : spn s a k ((j + 1 : Nat) : Int) = spn s a 10 0 := by
            rw [← HE.out, hk]; simp only [spn]; rw [if_neg (by omega), if_neg hc]; simp
          have HV := Lib.hid hv; have HK := Lib.hid hk; clear hv hk
          go_region
          go_wp2
          go_roundg k
          case measure => have := HK.out; omega
          case rel => exact ⟨j + 1, Lib.hid (by have := HJ.out; have := HK.out; omega), by simp, HV, Lib.hid B1.out.drew⟩
    · have h1 : decide ((j : Int) < 10) = false := decide_eq_false hlt
      have hv : spn s a 10 0 = -6 := by
        rw [← HE.out, show gk = 0 from by have := HJ.out; omega]; rfl
      go_wp2_with (go_at_call 103; with_reducible refine (need_no _ 6 _ rfl).mono ?_; rintro e w9 ⟨rfl, hb9⟩; have B9 := Lib.hid (HB.out.trans (hb9.mono HB.out.size)); clear hb9)
      simp [bodyPost, hv]
      exact B9.out
end Go.Proofs.Ytlnnghbbjbimoaa.Reader
