/- The bytes of any reply, on both sides. -/
import Derived.Test.YtlnnghbbjbimoaaPOct
import Derived.Test.YtlnnghbbjbimoaaPGx2
import Derived.Test.YtlnnghbbjbimoaaPGx7
import Derived.Test.YtlnnghbbjbimoaaPGx6
namespace Go.Proofs.Ytlnnghbbjbimoaa.Pure
open Go.RowKit Go.Proofs.Ytlnnghbbjbimoaa.PG Go.Proofs.Ytlnnghbbjbimoaa.OctPut Go.Proofs.YtlnnghbbjbimoaaW.PrintWords Go.Proofs.YtlnnghbbjbimoaaW.PrintLast Go.Proofs.YtlnnghbbjbimoaaW.PrintMore
set_option linter.unusedVariables false
set_option linter.unusedSimpArgs false

def I64 (n : Int) : Prop := -9223372036854775808 ≤ n ∧ n ≤ 9223372036854775807
/-- numbers, one behind the other -/
def vbs : List Int → List Int
  | [] => []
  | x :: l => vb 9 (zig x) ++ vbs l
theorem vbs_length (l : List Int) : (vbs l).length ≤ 10 * l.length := by
  induction l with
  | nil => simp [vbs]
  | cons x l ih => have := vb_length 9 (zig x); simp [vbs]; omega
theorem rput_l (vs : List Int) (hv : vs.length ≤ 100) (hw : ∀ x ∈ vs, I64 x) (n : Nat) : ∀ (k : Nat) (s : List Int) (i : Int), 0 ≤ i → (vs.length : Int) - i = n → s.length + 10 * n ≤ 100000 → n < k →
    reply_Put.l0 k s vs vs.length i = some (strOfNums (s ++ vbs (vs.drop i.toNat))) := by
  induction n with
  | zero =>
    intro k s i h0 h1 hs hk
    obtain ⟨k, rfl⟩ : ∃ m, k = m + 1 := ⟨k - 1, by omega⟩
    simp only [reply_Put.l0]; rw [if_neg (by omega), List.drop_of_length_le (by omega)]; simp [vbs]
  | succ n ih =>
    intro k s i h0 h1 hs hk
    obtain ⟨k, rfl⟩ : ∃ m, k = m + 1 := ⟨k - 1, by omega⟩
    have hlt : i.toNat < vs.length := by omega
    have hrd : rd vs i = vs[i.toNat] := by unfold rd; rw [List.getD_eq_getElem?_getD, List.getElem?_eq_getElem hlt]; rfl
    have hmem : vs[i.toNat] ∈ vs := List.getElem_mem hlt
    simp only [reply_Put.l0]; rw [if_pos (by omega), if_pos h0, if_pos (by omega), hrd, oPutVar_f _ _ (by omega) (hw _ hmem)]
    simp only [Option.bind_some]
    have := vb_length 9 (zig vs[i.toNat])
    rw [owr (by omega), ih k _ (i + 1) (by omega) (by omega) (by simp; omega) (by omega)]
    rw [show (i + 1).toNat = i.toNat + 1 from by omega, List.drop_eq_getElem_cons hlt]
    simp [vbs]
theorem refput_l (vs : List Int) (hv : vs.length ≤ 100) (hw : ∀ x ∈ vs, I64 x) (n : Nat) : ∀ (k : Nat) (s : List Int) (i : Int), 0 ≤ i → (vs.length : Int) - i = n → s.length + 10 * n ≤ 100000 → n + 20 < k →
    flashlockref39_Put.l0 k (strOfNums s) vs i = some (strOfNums (s ++ vbs (vs.drop i.toNat))) := by
  induction n with
  | zero =>
    intro k s i h0 h1 hs hk
    obtain ⟨k, rfl⟩ : ∃ m, k = m + 1 := ⟨k - 1, by omega⟩
    simp only [flashlockref39_Put.l0]; rw [if_neg (by omega), List.drop_of_length_le (by omega)]; simp [vbs]
  | succ n ih =>
    intro k s i h0 h1 hs hk
    obtain ⟨k, rfl⟩ : ∃ m, k = m + 1 := ⟨k - 1, by omega⟩
    have hlt : i.toNat < vs.length := by omega
    have hrd : rd vs i = vs[i.toNat] := by unfold rd; rw [List.getD_eq_getElem?_getD, List.getElem?_eq_getElem hlt]; rfl
    have hmem : vs[i.toNat] ∈ vs := List.getElem_mem hlt
    simp only [flashlockref39_Put.l0]; rw [if_pos (by omega), if_pos h0, hrd, putVar_f _ _ (by omega) (hw _ hmem)]
    simp only [Option.bind_some]
    have := vb_length 9 (zig vs[i.toNat])
    rw [if_pos (by rw [strOfNums_size, strOfNums_size]; omega), ← str_append, owr (by omega), ih k _ (i + 1) (by omega) (by omega) (by simp; omega) (by omega)]
    rw [show (i + 1).toNat = i.toNat + 1 from by omega, List.drop_eq_getElem_cons hlt]
    simp [vbs]
/-- the bytes of a reply -/
def rbytes (a0 a1 a2 a3 a4 : Int) (vs : List Int) : List Int := [a0 % 256, a1 % 256] ++ vb 9 (zig a2) ++ vb 9 (zig a3) ++ be 4 a4 ++ vbs vs
theorem put_f (k : Nat) (hk : 40 ≤ k) (a0 a1 a2 a3 a4 a5 a6 a7 a8 a9 a10 : Int) (h2 : I64 a2) (h3 : I64 a3) (h4 : 0 ≤ a4 ∧ a4 < 4294967296) (h5 : I64 a5) (h6 : I64 a6) (h7 : I64 a7) (h8 : I64 a8) (h9 : I64 a9) (h10 : I64 a10) :
    reply_Put.f k a0 a1 a2 a3 a4 a5 a6 a7 a8 a9 a10 = some (strOfNums (rbytes a0 a1 a2 a3 a4 [a5, a6, a7, a8, a9, a10])) := by
  have l2 := vb_length 9 (zig a2); have l3 := vb_length 9 (zig a3)
  unfold reply_Put.f octets_PutU32.f
  rw [oPutVar_f _ _ (by simp) h2]; simp only [Option.bind_some]
  rw [oPutVar_f _ _ (by simp; omega) h3]; simp only [Option.bind_some]
  rw [oPutU16_f _ _ (by simp; omega)]; simp only [Option.bind_some]
  rw [oPutU16_f _ _ (by simp; omega)]; simp only [Option.bind_some]
  rw [owr (by omega)]
  rw [rput_l [a5, a6, a7, a8, a9, a10] (by simp) (by intro x hx; simp at hx; rcases hx with rfl | rfl | rfl | rfl | rfl | rfl <;> assumption) 6 k _ 0 (by decide) (by simp) (by simp; omega) (by omega)]
  unfold rbytes; rw [be4]; simp
theorem refput_f (k : Nat) (hk : 60 ≤ k) (a0 a1 a2 a3 a4 a5 a6 a7 a8 a9 a10 : Int) (h0 : I64 a0) (h1 : I64 a1) (h2 : I64 a2) (h3 : I64 a3) (h4 : 0 ≤ a4 ∧ a4 < 4294967296) (h5 : I64 a5) (h6 : I64 a6) (h7 : I64 a7) (h8 : I64 a8) (h9 : I64 a9) (h10 : I64 a10) :
    flashlockref39_Put.f k a0 a1 a2 a3 a4 a5 a6 a7 a8 a9 a10 = some (strOfNums (rbytes a0 a1 a2 a3 a4 [a5, a6, a7, a8, a9, a10])) := by
  have l2 := vb_length 9 (zig a2); have l3 := vb_length 9 (zig a3)
  have b (x : Int) : be 1 x = [x % 256] := rfl
  unfold flashlockref39_Put.f
  have hw (x : Int) (h : I64 x) : 0 ≤ IntKind.u64.wrap x ∧ IntKind.u64.wrap x < 18446744073709551616 ∧ IntKind.u64.wrap x % 256 = x % 256 := by rw [IntKind.wrap_u64]; omega
  rw [show (1 : Int) = ((1 : Nat) : Int) from rfl, show (4 : Int) = ((4 : Nat) : Int) from rfl, putNum_f 1 k _ (hw a0 h0).1 (hw a0 h0).2.1 (by decide) (by omega), putNum_f 1 k _ (hw a1 h1).1 (hw a1 h1).2.1 (by decide) (by omega)]
  simp only [Option.bind_some]
  rw [putVar_f k a2 (by omega) h2, putVar_f k a3 (by omega) h3, owru (x := a4) (by omega), putNum_f 4 k _ (by omega) (by omega) (by decide) (by omega)]
  simp only [Option.bind_some, b, (hw a0 h0).2.2, (hw a1 h1).2.2]
  have bl := be_length 4 a4
  rw [if_pos (by simp only [strOfNums_size]; simp), ← str_append, if_pos (by simp only [strOfNums_size]; simp; omega), ← str_append, if_pos (by simp only [strOfNums_size]; simp; omega), ← str_append, if_pos (by simp only [strOfNums_size]; simp; omega), ← str_append]
  unfold flashlockref39_stat.f
  simp only [Option.bind_some]
  rw [refput_l [a5, a6, a7, a8, a9, a10] (by simp) (by intro x hx; simp at hx; rcases hx with rfl | rfl | rfl | rfl | rfl | rfl <;> assumption) 6 k _ 0 (by decide) (by simp) (by simp; omega) (by omega)]
  unfold rbytes; simp
theorem reply_lives : flashlocklaw39_lives.f 100 = some true := by decide +kernel
end Go.Proofs.Ytlnnghbbjbimoaa.Pure
