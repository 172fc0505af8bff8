/- Numbers read where their bytes stand: plain values. -/
import Derived.Test.YtlnnghbbjbimoaaVarV
namespace Go.Proofs.Ytlnnghbbjbimoaa.AtL
open Go Go.RowKit Go.Proofs.Ytlnnghbbjbimoaa.Reader Go.Proofs.Ytlnnghbbjbimoaa.PNum Go.Proofs.Ytlnnghbbjbimoaa.Num Go.Proofs.Ytlnnghbbjbimoaa.OctPut Go.Proofs.Ytlnnghbbjbimoaa.VarV Go.Proofs.YtlnnghbbjbimoaaW.PrintWords Go.Proofs.YtlnnghbbjbimoaaW.PrintLast Go.Proofs.YtlnnghbbjbimoaaW.PrintMore
set_option linter.unusedVariables false
set_option linter.unusedSimpArgs false
/-- the bytes L stand at a place of s -/
structure At (s : ByteArray) (a : Nat) (L : List Int) : Prop where
  fit : a + L.length ≤ s.size
  is : ∀ i, i < L.length → bt s ((a : Int) + (i : Nat)) = L.getD i 0
theorem At.left {s : ByteArray} {a : Nat} {L M : List Int} (h : At s a (L ++ M)) : At s a L := by
  have hf := h.fit
  rw [List.length_append] at hf
  refine ⟨by omega, fun i hi => ?_⟩
  rw [h.is i (by rw [List.length_append]; omega), List.getD_eq_getElem?_getD, List.getD_eq_getElem?_getD, List.getElem?_append_left hi]
theorem At.right {s : ByteArray} {a : Nat} {L M : List Int} (h : At s a (L ++ M)) : At s (a + L.length) M := by
  have hf := h.fit
  rw [List.length_append] at hf
  refine ⟨by omega, fun i hi => ?_⟩
  have := h.is (L.length + i) (by rw [List.length_append]; omega)
  rw [show ((a + L.length : Nat) : Int) + (i : Nat) = (a : Int) + ((L.length + i : Nat) : Int) from by omega, this, List.getD_eq_getElem?_getD, List.getD_eq_getElem?_getD, List.getElem?_append_right (by omega), show L.length + i - L.length = i from by omega]
theorem At.all (L : List Int) (h : ∀ x ∈ L, 0 ≤ x ∧ x ≤ 255) : At (strOfNums L) 0 L := by
  refine ⟨by rw [strOfNums_size]; omega, fun i hi => ?_⟩
  have he : L[i]? = some (L.getD i 0) := by rw [List.getD_eq_getElem?_getD, List.getElem?_eq_getElem hi]; rfl
  have := bt_nums L i (L.getD i 0) he (h _ (by rw [List.getD_eq_getElem?_getD, List.getElem?_eq_getElem hi]; exact List.getElem_mem hi))
  rw [show ((0 : Nat) : Int) + (i : Nat) = (i : Int) from by omega]
  exact this
theorem be_mem (n : Nat) : ∀ (x y : Int), y ∈ be n x → 0 ≤ y ∧ y ≤ 255 := by
  induction n with
  | zero => intro x y h; simp [be] at h
  | succ n ih =>
    intro x y h
    simp only [be, List.mem_append, List.mem_singleton] at h
    rcases h with h | h
    · exact ih _ _ h
    · omega
/-- a number of n bytes that stands at a place is read there -/
theorem nm_at (s : ByteArray) (n : Nat) : ∀ (a : Nat) (x : Int), 0 ≤ x → x < 256 ^ n → At s a (be n x) → nm s a n = x := by
  induction n with
  | zero => intro a x h0 h1 _; simp at h1; simp only [nm]; omega
  | succ n ih =>
    intro a x h0 h1 h
    have h2 : x / 256 < 256 ^ n := by rw [Int.pow_succ] at h1; omega
    simp only [be] at h
    have hl := ih a (x / 256) (by omega) h2 h.left
    have hr := h.right.is 0 (by simp)
    simp only [nm]
    rw [hl]
    rw [be_length] at hr
    have e : bt s ((a : Int) + n) = x % 256 := by
      have := hr
      simp at this
      exact this
    rw [e]; omega
theorem vb_pos (k : Nat) (x : Int) : 0 < (vb k x).length := by
  cases k with
  | zero => simp [vb]
  | succ k => simp only [vb]; split <;> simp
/-- the form of a number's code -/
theorem vb_form (k : Nat) : ∀ x : Int, 0 ≤ x → x < 128 ^ (k + 1) → (∀ i, i + 1 < (vb k x).length → 128 ≤ (vb k x).getD i 0 ∧ (vb k x).getD i 0 ≤ 255) ∧ 0 ≤ (vb k x).getD ((vb k x).length - 1) 0 ∧ (vb k x).getD ((vb k x).length - 1) 0 < 128 ∧ ((vb k x).length = 1 ∨ 0 < (vb k x).getD ((vb k x).length - 1) 0) ∧ (vb k x).getD ((vb k x).length - 1) 0 * 128 ^ ((vb k x).length - 1) ≤ x := by
  induction k with
  | zero =>
    intro x h0 h1
    simp only [vb, List.length_singleton]
    refine ⟨fun i hi => by omega, ?_⟩
    simp
    omega
  | succ k ih =>
    intro x h0 h1
    by_cases hx : x < 128
    · rw [vb_small (k + 1) hx]
      simp only [List.length_singleton]
      refine ⟨fun i hi => by omega, ?_⟩
      simp
      omega
    · have h2 : x / 128 < 128 ^ (k + 1) := by rw [Int.pow_succ] at h1; omega
      obtain ⟨i1, i2, i3, i4, i5⟩ := ih (x / 128) (by omega) h2
      have hp := vb_pos k (x / 128)
      rw [vb_big k (by omega)]
      generalize hL : vb k (x / 128) = L at *
      have hlen : ((x % 128 + 128) :: L).length - 1 = L.length - 1 + 1 := by simp; omega
      have hlast : ((x % 128 + 128) :: L).getD (((x % 128 + 128) :: L).length - 1) 0 = L.getD (L.length - 1) 0 := by rw [hlen]; rfl
      rw [hlast]
      refine ⟨fun i hi => ?_, i2, i3, .inr ?_, ?_⟩
      · cases i with
        | zero => simp; omega
        | succ i => have := i1 i (by simp at hi; omega); simpa using this
      · rcases i4 with h | h
        · have hz : L.length - 1 = 0 := by omega
          have hx1 : 1 ≤ x / 128 := by omega
          have : L = [x / 128] ∨ 0 < L.getD (L.length - 1) 0 := by
            cases k with
            | zero => left; rw [← hL]; rfl
            | succ k =>
              left
              by_cases h8 : x / 128 < 128
              · rw [← hL, vb_small (k + 1) h8]
              · rw [vb_big k (by omega)] at hL
                rw [← hL] at h; simp at h
                have := vb_pos k (x / 128 / 128)
                rw [h] at this; simp at this
          rcases this with e | e
          · rw [e]; simp; omega
          · exact e
        · exact h
      · have e : (128 : Int) ^ (((x % 128 + 128) :: L).length - 1) = 128 * 128 ^ (L.length - 1) := by rw [hlen, Int.pow_succ, Int.mul_comm]
        rw [e]
        generalize hq : L.getD (L.length - 1) 0 = q at *
        generalize hw : (128 : Int) ^ (L.length - 1) = p at *
        have : q * (128 * p) = 128 * (q * p) := by rw [← Int.mul_assoc, Int.mul_comm q 128, Int.mul_assoc]
        rw [this]; omega
theorem fw_vb (k : Nat) : ∀ (x : Int) (f : Nat → Int) (j : Nat), 0 ≤ x → x < 128 ^ (k + 1) → (∀ i, i < (vb k x).length → f (j + i) = (vb k x).getD i 0) → fw f j (vb k x).length = x := by
  induction k with
  | zero =>
    intro x f j h0 h1 h
    have := h 0 (by simp [vb])
    simp only [vb, List.length_singleton, fw] at this ⊢
    simp at this h1
    rw [this]; omega
  | succ k ih =>
    intro x f j h0 h1 h
    by_cases hx : x < 128
    · rw [vb_small (k + 1) hx] at h ⊢
      have := h 0 (by simp)
      simp only [List.length_singleton, fw] at this ⊢
      simp at this
      rw [this]; omega
    · have h2 : x / 128 < 128 ^ (k + 1) := by rw [Int.pow_succ] at h1; omega
      rw [vb_big k (by omega)] at h ⊢
      have h00 := h 0 (by simp)
      have ih' := ih (x / 128) f (j + 1) (by omega) h2 (fun i hi => by
        have := h (i + 1) (by simp; exact hi)
        rw [show j + 1 + i = j + (i + 1) from by omega, this]; rfl)
      simp only [List.length_cons, fw, Nat.add_zero] at h00 ⊢
      rw [ih', h00]
      simp
      omega
theorem vb_lenk (k : Nat) : ∀ x : Int, (vb k x).length ≤ k + 1 := by
  induction k with
  | zero => intro x; simp [vb]
  | succ k ih => intro x; simp only [vb]; split <;> simp <;> exact ih _
theorem vb_len9 (x : Int) : (vb 9 x).length ≤ 10 := vb_lenk 9 x
theorem spn_at (s : ByteArray) (a : Nat) (L : List Int) (h : At s a L) (hp : 0 < L.length) (hg : ∀ i, i + 1 < L.length → 128 ≤ L.getD i 0) (hl : L.getD (L.length - 1) 0 < 128) : ∀ (d k : Nat), k < L.length → L.length ≤ k + d → spn s a d k = L.length
  | 0, k, h1, h2 => by omega
  | d + 1, k, h1, h2 => by
    have hf := h.fit
    have hb := h.is k h1
    simp only [spn]
    rw [if_neg (by omega), hb]
    by_cases e : k + 1 = L.length
    · rw [show k = L.length - 1 from by omega, if_pos hl]; omega
    · have := hg k (by omega)
      rw [if_neg (by omega)]
      have := spn_at s a L h hp hg hl d (k + 1) (by omega) (by omega)
      rw [← this]; congr 1
theorem uz_zig (n : Int) : uz (zig n) = n := by
  unfold zig
  split
  · unfold uz; rw [if_pos (by omega)]; omega
  · unfold uz; rw [if_neg (by omega)]; omega
/-- where a number was written it is read -/
theorem var_at (s : ByteArray) (a : Nat) (n : Int) (hn : -9223372036854775808 ≤ n ∧ n ≤ 9223372036854775807) (h : At s a (vb 9 (zig n))) : vE s a = 0 ∧ vN s a = (vb 9 (zig n)).length ∧ vV s a = n := by
  obtain ⟨z0, z1⟩ := zig_range hn
  have hlt : zig n < 128 ^ (9 + 1) := by have : (128 : Int) ^ (9 + 1) = 1180591620717411303424 := by decide
                                         omega
  obtain ⟨g1, g2, g3, g4, g5⟩ := vb_form 9 (zig n) z0 hlt
  have hp := vb_pos 9 (zig n)
  have hlen := vb_len9 (zig n)
  have hN : vN s a = (vb 9 (zig n)).length := spn_at s a _ h hp (fun i hi => (g1 i hi).1) g3 10 0 hp (by omega)
  have hlast : bt s ((a : Int) + vN s a - 1) = (vb 9 (zig n)).getD ((vb 9 (zig n)).length - 1) 0 := by
    have := h.is ((vb 9 (zig n)).length - 1) (by omega)
    rw [hN, show (a : Int) + ((vb 9 (zig n)).length : Int) - 1 = (a : Int) + (((vb 9 (zig n)).length - 1 : Nat) : Int) from by omega]
    exact this
  have hE : vE s a = 0 := by
    unfold vE
    rw [if_neg (by omega), if_neg (by omega), if_neg (by
      rw [hlast, hN]
      rintro (⟨e1, e2⟩ | ⟨e1, e2⟩)
      · have e3 : (vb 9 (zig n)).length - 1 = 9 := by omega
        rw [e3] at g5 e2
        have : (128 : Int) ^ 9 = 9223372036854775808 := by decide
        rw [this] at g5
        omega
      · rcases g4 with h | h
        · omega
        · omega)]
  refine ⟨hE, hN, ?_⟩
  have hf := h.fit
  obtain ⟨m, hm, -, -, -, hV, -, -, -, -⟩ := var_v s a hE (by omega)
  have hmm : m = (vb 9 (zig n)).length := by omega
  subst hmm
  rw [hV, fw_vb 9 (zig n) (fun i => bt s ((a : Int) + i)) 0 z0 hlt (fun i hi => by rw [Nat.zero_add]; exact h.is i hi), uz_zig]
theorem vb_mem (n : Int) (hn : -9223372036854775808 ≤ n ∧ n ≤ 9223372036854775807) (y : Int) (h : y ∈ vb 9 (zig n)) : 0 ≤ y ∧ y ≤ 255 := by
  obtain ⟨z0, z1⟩ := zig_range hn
  have hlt : zig n < 128 ^ (9 + 1) := by have : (128 : Int) ^ (9 + 1) = 1180591620717411303424 := by decide
                                         omega
  obtain ⟨g1, g2, g3, g4, g5⟩ := vb_form 9 (zig n) z0 hlt
  obtain ⟨i, hi, rfl⟩ := List.getElem_of_mem h
  have e : (vb 9 (zig n))[i] = (vb 9 (zig n)).getD i 0 := by rw [List.getD_eq_getElem?_getD, List.getElem?_eq_getElem hi]; rfl
  rw [e]
  by_cases hl : i + 1 < (vb 9 (zig n)).length
  · have := g1 i hl; omega
  · rw [show i = (vb 9 (zig n)).length - 1 from by omega]; omega
end Go.Proofs.Ytlnnghbbjbimoaa.AtL
