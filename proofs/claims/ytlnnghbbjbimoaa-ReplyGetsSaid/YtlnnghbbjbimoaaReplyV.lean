/- A reply's bytes, read and written: plain values. -/
import Derived.Test.YtlnnghbbjbimoaaAtL
import Derived.Test.YtlnnghbbjbimoaaReplyPutV
import Derived.Test.YtlnnghbbjbimoaaReplyGet
namespace Go.Proofs.Ytlnnghbbjbimoaa.ReplyV
open Go Go.RowKit Go.Proofs.Ytlnnghbbjbimoaa.Reader Go.Proofs.Ytlnnghbbjbimoaa.PNum Go.Proofs.Ytlnnghbbjbimoaa.Num Go.Proofs.Ytlnnghbbjbimoaa.OctPut Go.Proofs.Ytlnnghbbjbimoaa.VarV Go.Proofs.Ytlnnghbbjbimoaa.AtL Go.Proofs.Ytlnnghbbjbimoaa.ReplyGet Go.Proofs.YtlnnghbbjbimoaaW.PrintWords Go.Proofs.YtlnnghbbjbimoaaW.PrintLast Go.Proofs.YtlnnghbbjbimoaaW.PrintMore
open Go.Proofs.Ytlnnghbbjbimoaa.Pure hiding be be_length str_append str_nil putNum_f owr owru
set_option linter.unusedVariables false
set_option linter.unusedSimpArgs false
theorem ext_app (s : ByteArray) (a b c : Nat) (h : a ≤ b) (h2 : b ≤ c) : s.extract a b ++ s.extract b c = s.extract a c := by
  apply ByteArray.ext
  simp only [ByteArray.data_append, ByteArray.data_extract]
  rw [Array.extract_append_extract]
  congr 1 <;> omega
theorem step_v (s : ByteArray) (X : Int → Int) (p : Nat) (L : List Int) (hp : p ≤ s.size) (hL : strOfNums L = s.extract 0 p) (h : (if vE s p = 0 then X ((p : Int) + vN s p) else vE s p) = 0) :
    ∃ q : Nat, (p : Int) + vN s p = q ∧ q ≤ s.size ∧ X q = 0 ∧ strOfNums (L ++ vb 9 (zig (vV s p))) = s.extract 0 q ∧ I64 (vV s p) := by
  by_cases e : vE s p = 0
  · rw [if_pos e] at h
    obtain ⟨n, hn, _, _, hf, _, _, hs, h1, h2⟩ := var_v s p e (by omega)
    rw [hn] at h ⊢
    refine ⟨p + n, by omega, hf, by rw [show ((p + n : Nat) : Int) = (p : Int) + (n : Int) from by omega]; exact h, ?_, h1, h2⟩
    rw [str_append, hL, hs, ext_app s 0 p (p + n) (by omega) (by omega)]
  · rw [if_neg e] at h; exact absurd h e
theorem step_n (s : ByteArray) (X : Int → Int) (p w : Nat) (L : List Int) (hp : p ≤ s.size) (hL : strOfNums L = s.extract 0 p) (h : (if (p : Int) + w ≤ (s.size : Int) then X ((p : Int) + w) else 5) = 0) :
    p + w ≤ s.size ∧ X ((p + w : Nat) : Int) = 0 ∧ strOfNums (L ++ be w (nm s p w)) = s.extract 0 (p + w) := by
  by_cases e : (p : Int) + w ≤ s.size
  · rw [if_pos e] at h
    refine ⟨by omega, by rw [show ((p + w : Nat) : Int) = (p : Int) + (w : Int) from by omega]; exact h, ?_⟩
    rw [str_append, hL, be_nm s p w (by omega), ext_app s 0 p (p + w) (by omega) (by omega)]
  · rw [if_neg e] at h; omega
theorem pbe (n : Nat) : ∀ x : Int, Go.Proofs.Ytlnnghbbjbimoaa.Pure.be n x = be n x := by
  induction n with
  | zero => intro x; rfl
  | succ n ih => intro x; simp only [Go.Proofs.Ytlnnghbbjbimoaa.Pure.be, be, ih]
theorem be1 (x : Int) : be 1 x = [x % 256] := rfl
set_option maxRecDepth 10000 in
/-- what was read, written again, is what stood there -/
theorem read_back (s : ByteArray) (h : rg s = 0) : s = strOfNums (rbytes (rv s 0) (rv s 1) (rv s 2) (rv s 3) (rv s 4) [rv s 5, rv s 6, rv s 7, rv s 8, rv s 9, rv s 10]) ∧ (0 ≤ rv s 0 ∧ rv s 0 ≤ 255) ∧ (0 ≤ rv s 1 ∧ rv s 1 ≤ 255) ∧ I64 (rv s 2) ∧ I64 (rv s 3) ∧ (0 ≤ rv s 4 ∧ rv s 4 < 4294967296) ∧ I64 (rv s 5) ∧ I64 (rv s 6) ∧ I64 (rv s 7) ∧ I64 (rv s 8) ∧ I64 (rv s 9) ∧ I64 (rv s 10) := by
  have hr : ∀ i, rv s i = (match i with | 0 => nm s 0 1 | 1 => nm s 1 1 | 2 => vV s (rp s 2) | 3 => vV s (rp s 3) | 4 => nm s (rp s 4) 4 | 5 => vV s (rp s 5) | 6 => vV s (rp s 6) | 7 => vV s (rp s 7) | 8 => vV s (rp s 8) | 9 => vV s (rp s 9) | 10 => vV s (rp s 10) | _ => 0) := fun i => by unfold rv; rw [if_pos h]; rfl
  have x0 : (if ((0 : Nat) : Int) + (1 : Nat) ≤ (s.size : Int) then t1 s (((0 : Nat) : Int) + (1 : Nat)) else 5) = 0 := h
  obtain ⟨f1, x1, L1⟩ := step_n s (t1 s) 0 1 [] (by omega) (by rw [str_nil]; apply ByteArray.ext; simp) x0
  have x1 : (if ((0 + 1 : Nat) : Int) + (1 : Nat) ≤ (s.size : Int) then t2 s (((0 + 1 : Nat) : Int) + (1 : Nat)) else 5) = 0 := x1
  obtain ⟨f2, x2, L2⟩ := step_n s (t2 s) (0 + 1) 1 _ f1 L1 x1
  have x2 : (if vE s ((0 + 1 + 1 : Nat) : Int) = 0 then t3 s (((0 + 1 + 1 : Nat) : Int) + vN s ((0 + 1 + 1 : Nat) : Int)) else vE s ((0 + 1 + 1 : Nat) : Int)) = 0 := x2
  obtain ⟨q3, e3, f3, x3, L3, i2⟩ := step_v s (t3 s) (0 + 1 + 1) _ f2 L2 x2
  have r3 : rp s 3 = q3 := e3
  have x3 : (if vE s (q3 : Int) = 0 then t4 s ((q3 : Int) + vN s (q3 : Int)) else vE s (q3 : Int)) = 0 := x3
  obtain ⟨q4, e4, f4, x4, L4, i3⟩ := step_v s (t4 s) q3 _ f3 L3 x3
  have r4 : rp s 4 = q4 := by show rp s 3 + vN s (rp s 3) = _; rw [r3]; exact e4
  have x4 : (if (q4 : Int) + (4 : Nat) ≤ (s.size : Int) then t5 s ((q4 : Int) + (4 : Nat)) else 5) = 0 := x4
  obtain ⟨f5, x5, L5⟩ := step_n s (t5 s) q4 4 _ f4 L4 x4
  obtain ⟨q5, hq5⟩ : ∃ q5, q5 = q4 + 4 := ⟨_, rfl⟩
  rw [← hq5] at f5 x5 L5
  have r5 : rp s 5 = q5 := by show rp s 4 + 4 = _; rw [r4]; omega
  have x5 : (if vE s (q5 : Int) = 0 then t6 s ((q5 : Int) + vN s (q5 : Int)) else vE s (q5 : Int)) = 0 := x5
  obtain ⟨q6, e6, f6, x6, L6, i5⟩ := step_v s (t6 s) q5 _ f5 L5 x5
  have r6 : rp s 6 = q6 := by show rp s 5 + vN s (rp s 5) = _; rw [r5]; exact e6
  have x6 : (if vE s (q6 : Int) = 0 then t7 s ((q6 : Int) + vN s (q6 : Int)) else vE s (q6 : Int)) = 0 := x6
  obtain ⟨q7, e7, f7, x7, L7, i6⟩ := step_v s (t7 s) q6 _ f6 L6 x6
  have r7 : rp s 7 = q7 := by show rp s 6 + vN s (rp s 6) = _; rw [r6]; exact e7
  have x7 : (if vE s (q7 : Int) = 0 then t8 s ((q7 : Int) + vN s (q7 : Int)) else vE s (q7 : Int)) = 0 := x7
  obtain ⟨q8, e8, f8, x8, L8, i7⟩ := step_v s (t8 s) q7 _ f7 L7 x7
  have r8 : rp s 8 = q8 := by show rp s 7 + vN s (rp s 7) = _; rw [r7]; exact e8
  have x8 : (if vE s (q8 : Int) = 0 then t9 s ((q8 : Int) + vN s (q8 : Int)) else vE s (q8 : Int)) = 0 := x8
  obtain ⟨q9, e9, f9, x9, L9, i8⟩ := step_v s (t9 s) q8 _ f8 L8 x8
  have r9 : rp s 9 = q9 := by show rp s 8 + vN s (rp s 8) = _; rw [r8]; exact e9
  have x9 : (if vE s (q9 : Int) = 0 then t10 s ((q9 : Int) + vN s (q9 : Int)) else vE s (q9 : Int)) = 0 := x9
  obtain ⟨q10, e10, f10, x10, L10, i9⟩ := step_v s (t10 s) q9 _ f9 L9 x9
  have r10 : rp s 10 = q10 := by show rp s 9 + vN s (rp s 9) = _; rw [r9]; exact e10
  have x10 : (if vE s (q10 : Int) = 0 then t11 s ((q10 : Int) + vN s (q10 : Int)) else vE s (q10 : Int)) = 0 := x10
  obtain ⟨q11, e11, f11, x11, L11, i10⟩ := step_v s (t11 s) q10 _ f10 L10 x10
  have r11 : rp s 11 = q11 := by show rp s 10 + vN s (rp s 10) = _; rw [r10]; exact e11
  have hend : (q11 : Int) = s.size := by
    have x11 : (if (q11 : Int) = s.size then (0 : Int) else 4) = 0 := x11
    by_cases e : (q11 : Int) = s.size
    · exact e
    · rw [if_neg e] at x11; omega
  rw [show q11 = s.size from by omega, ext_all] at L11
  have y0 := nm_range s 0 1; have y1 := nm_range s 1 1; have y4 := nm_range s (q4 : Int) 4
  have v0 : rv s 0 = nm s 0 1 := hr 0
  have v1 : rv s 1 = nm s 1 1 := hr 1
  have v2 : rv s 2 = vV s ((0 + 1 + 1 : Nat) : Int) := hr 2
  have v3 : rv s 3 = vV s (q3 : Int) := by have := hr 3; simp only [r3] at this; exact this
  have v4 : rv s 4 = nm s (q4 : Int) 4 := by have := hr 4; simp only [r4] at this; exact this
  have v5 : rv s 5 = vV s (q5 : Int) := by have := hr 5; simp only [r5] at this; exact this
  have v6 : rv s 6 = vV s (q6 : Int) := by have := hr 6; simp only [r6] at this; exact this
  have v7 : rv s 7 = vV s (q7 : Int) := by have := hr 7; simp only [r7] at this; exact this
  have v8 : rv s 8 = vV s (q8 : Int) := by have := hr 8; simp only [r8] at this; exact this
  have v9 : rv s 9 = vV s (q9 : Int) := by have := hr 9; simp only [r9] at this; exact this
  have v10 : rv s 10 = vV s (q10 : Int) := by have := hr 10; simp only [r10] at this; exact this
  refine ⟨?_, ?_, ?_, ?_, ?_, ?_, ?_, ?_, ?_, ?_, ?_, ?_⟩
  · rw [v0, v1, v2, v3, v4, v5, v6, v7, v8, v9, v10]
    refine L11.symm.trans ?_
    congr 1
    unfold rbytes
    simp only [pbe, vbs, be1, List.nil_append, List.append_assoc, List.cons_append, List.append_nil]
    rfl
  · rw [v0]; omega
  · rw [v1]; omega
  · rw [v2]; exact i2
  · rw [v3]; exact i3
  · rw [v4]; omega
  · rw [v5]; exact i5
  · rw [v6]; exact i6
  · rw [v7]; exact i7
  · rw [v8]; exact i8
  · rw [v9]; exact i9
  · rw [v10]; exact i10
theorem rbytes_mem (a0 a1 a2 a3 a4 a5 a6 a7 a8 a9 a10 : Int) (h0 : 0 ≤ a0 ∧ a0 ≤ 255) (h1 : 0 ≤ a1 ∧ a1 ≤ 255) (h2 : I64 a2) (h3 : I64 a3) (h4 : 0 ≤ a4 ∧ a4 < 4294967296) (h5 : I64 a5) (h6 : I64 a6) (h7 : I64 a7) (h8 : I64 a8) (h9 : I64 a9) (h10 : I64 a10) : ∀ x ∈ rbytes a0 a1 a2 a3 a4 [a5, a6, a7, a8, a9, a10], 0 ≤ x ∧ x ≤ 255 := by
  intro x hx
  unfold rbytes at hx
  simp only [pbe, vbs, List.mem_append, List.mem_cons, List.not_mem_nil, or_false, List.append_nil] at hx
  have := vb_mem a2 h2 x; have := vb_mem a3 h3 x; have := be_mem 4 a4 x
  have := vb_mem a5 h5 x; have := vb_mem a6 h6 x; have := vb_mem a7 h7 x; have := vb_mem a8 h8 x; have := vb_mem a9 h9 x; have := vb_mem a10 h10 x
  rcases hx with (((hx | hx) | hx) | hx) | hx
  · rcases hx with rfl | rfl <;> omega
  · exact vb_mem a2 h2 x hx
  · exact vb_mem a3 h3 x hx
  · exact be_mem 4 a4 x hx
  · rcases hx with hx | hx | hx | hx | hx | hx
    · exact vb_mem a5 h5 x hx
    · exact vb_mem a6 h6 x hx
    · exact vb_mem a7 h7 x hx
    · exact vb_mem a8 h8 x hx
    · exact vb_mem a9 h9 x hx
    · exact vb_mem a10 h10 x hx
set_option maxRecDepth 10000 in
/-- what was written is read -/
theorem written (a0 a1 a2 a3 a4 a5 a6 a7 a8 a9 a10 : Int) (h0 : 0 ≤ a0 ∧ a0 ≤ 255) (h1 : 0 ≤ a1 ∧ a1 ≤ 255) (h2 : I64 a2) (h3 : I64 a3) (h4 : 0 ≤ a4 ∧ a4 < 4294967296) (h5 : I64 a5) (h6 : I64 a6) (h7 : I64 a7) (h8 : I64 a8) (h9 : I64 a9) (h10 : I64 a10) (s : ByteArray) (hs : s = strOfNums (rbytes a0 a1 a2 a3 a4 [a5, a6, a7, a8, a9, a10])) : rg s = 0 ∧ rv s 0 = a0 ∧ rv s 1 = a1 ∧ rv s 2 = a2 ∧ rv s 3 = a3 ∧ rv s 4 = a4 ∧ rv s 5 = a5 ∧ rv s 6 = a6 ∧ rv s 7 = a7 ∧ rv s 8 = a8 ∧ rv s 9 = a9 ∧ rv s 10 = a10 := by
  have hA := At.all _ (rbytes_mem a0 a1 a2 a3 a4 a5 a6 a7 a8 a9 a10 h0 h1 h2 h3 h4 h5 h6 h7 h8 h9 h10)
  have hz : s.size = (rbytes a0 a1 a2 a3 a4 [a5, a6, a7, a8, a9, a10]).length := by rw [hs, strOfNums_size]
  rw [← hs] at hA
  have hb : rbytes a0 a1 a2 a3 a4 [a5, a6, a7, a8, a9, a10] = be 1 a0 ++ (be 1 a1 ++ (vb 9 (zig a2) ++ (vb 9 (zig a3) ++ (be 4 a4 ++ (vb 9 (zig a5) ++ (vb 9 (zig a6) ++ (vb 9 (zig a7) ++ (vb 9 (zig a8) ++ (vb 9 (zig a9) ++ vb 9 (zig a10)))))))))) := by
    unfold rbytes; simp only [pbe, vbs, be1, List.nil_append, List.append_assoc, List.cons_append, List.append_nil]
  rw [hb] at hA hz
  clear hb hs
  have s0 := hA.left; have A1 := hA.right
  have s1 := A1.left; have A2 := A1.right
  have s2 := A2.left; have A3 := A2.right
  have s3 := A3.left; have A4 := A3.right
  have s4 := A4.left; have A5 := A4.right
  have s5 := A5.left; have A6 := A5.right
  have s6 := A6.left; have A7 := A6.right
  have s7 := A7.left; have A8 := A7.right
  have s8 := A8.left; have A9 := A8.right
  have s9 := A9.left; have s10 := A9.right
  clear hA A1 A2 A3 A4 A5 A6 A7 A8 A9
  simp only [be_length, List.length_append] at s1 s2 s3 s4 s5 s6 s7 s8 s9 s10 hz
  obtain ⟨q2, hq2⟩ : ∃ q : Nat, q = 0 + 1 + 1 := ⟨_, rfl⟩
  rw [← hq2] at s2 s3 s4 s5 s6 s7 s8 s9 s10
  obtain ⟨q3, hq3⟩ : ∃ q : Nat, q = q2 + (vb 9 (zig a2)).length := ⟨_, rfl⟩
  rw [← hq3] at s3 s4 s5 s6 s7 s8 s9 s10
  obtain ⟨q4, hq4⟩ : ∃ q : Nat, q = q3 + (vb 9 (zig a3)).length := ⟨_, rfl⟩
  rw [← hq4] at s4 s5 s6 s7 s8 s9 s10
  obtain ⟨q5, hq5⟩ : ∃ q : Nat, q = q4 + 4 := ⟨_, rfl⟩
  rw [← hq5] at s5 s6 s7 s8 s9 s10
  obtain ⟨q6, hq6⟩ : ∃ q : Nat, q = q5 + (vb 9 (zig a5)).length := ⟨_, rfl⟩
  rw [← hq6] at s6 s7 s8 s9 s10
  obtain ⟨q7, hq7⟩ : ∃ q : Nat, q = q6 + (vb 9 (zig a6)).length := ⟨_, rfl⟩
  rw [← hq7] at s7 s8 s9 s10
  obtain ⟨q8, hq8⟩ : ∃ q : Nat, q = q7 + (vb 9 (zig a7)).length := ⟨_, rfl⟩
  rw [← hq8] at s8 s9 s10
  obtain ⟨q9, hq9⟩ : ∃ q : Nat, q = q8 + (vb 9 (zig a8)).length := ⟨_, rfl⟩
  rw [← hq9] at s9 s10
  obtain ⟨q10, hq10⟩ : ∃ q : Nat, q = q9 + (vb 9 (zig a9)).length := ⟨_, rfl⟩
  rw [← hq10] at s10
  have w0 := nm_at s 1 0 a0 h0.1 (by omega) s0
  have w1 := nm_at s 1 (0 + 1) a1 h1.1 (by omega) s1
  obtain ⟨u2, n2, w2⟩ := var_at s _ a2 h2 s2
  obtain ⟨u3, n3, w3⟩ := var_at s _ a3 h3 s3
  have w4 := nm_at s 4 _ a4 h4.1 (by omega) s4
  obtain ⟨u5, n5, w5⟩ := var_at s _ a5 h5 s5
  obtain ⟨u6, n6, w6⟩ := var_at s _ a6 h6 s6
  obtain ⟨u7, n7, w7⟩ := var_at s _ a7 h7 s7
  obtain ⟨u8, n8, w8⟩ := var_at s _ a8 h8 s8
  obtain ⟨u9, n9, w9⟩ := var_at s _ a9 h9 s9
  obtain ⟨u10, n10, w10⟩ := var_at s _ a10 h10 s10
  have f4 := s4.fit
  rw [be_length] at f4
  have r2 : rp s 2 = (q2 : Int) := by rw [hq2]; rfl
  have r3 : rp s 3 = (q3 : Int) := by show rp s 2 + vN s (rp s 2) = _; rw [r2, n2]; omega
  have r4 : rp s 4 = (q4 : Int) := by show rp s 3 + vN s (rp s 3) = _; rw [r3, n3]; omega
  have r5 : rp s 5 = (q5 : Int) := by show rp s 4 + 4 = _; rw [r4]; omega
  have r6 : rp s 6 = (q6 : Int) := by show rp s 5 + vN s (rp s 5) = _; rw [r5, n5]; omega
  have r7 : rp s 7 = (q7 : Int) := by show rp s 6 + vN s (rp s 6) = _; rw [r6, n6]; omega
  have r8 : rp s 8 = (q8 : Int) := by show rp s 7 + vN s (rp s 7) = _; rw [r7, n7]; omega
  have r9 : rp s 9 = (q9 : Int) := by show rp s 8 + vN s (rp s 8) = _; rw [r8, n8]; omega
  have r10 : rp s 10 = (q10 : Int) := by show rp s 9 + vN s (rp s 9) = _; rw [r9, n9]; omega
  have g11 : t11 s ((q10 : Int) + vN s q10) = 0 := by unfold t11; rw [if_pos (by rw [n10]; omega)]
  have g10 : t10 s (q10 : Int) = 0 := by unfold t10; rw [if_pos u10]; exact g11
  have g9 : t9 s (q9 : Int) = 0 := by unfold t9; rw [if_pos u9]; rw [show (q9 : Int) + vN s q9 = (q10 : Int) from by rw [n9]; omega]; exact g10
  have g8 : t8 s (q8 : Int) = 0 := by unfold t8; rw [if_pos u8]; rw [show (q8 : Int) + vN s q8 = (q9 : Int) from by rw [n8]; omega]; exact g9
  have g7 : t7 s (q7 : Int) = 0 := by unfold t7; rw [if_pos u7]; rw [show (q7 : Int) + vN s q7 = (q8 : Int) from by rw [n7]; omega]; exact g8
  have g6 : t6 s (q6 : Int) = 0 := by unfold t6; rw [if_pos u6]; rw [show (q6 : Int) + vN s q6 = (q7 : Int) from by rw [n6]; omega]; exact g7
  have g5 : t5 s (q5 : Int) = 0 := by unfold t5; rw [if_pos u5]; rw [show (q5 : Int) + vN s q5 = (q6 : Int) from by rw [n5]; omega]; exact g6
  have g4 : t4 s (q4 : Int) = 0 := by unfold t4; rw [if_pos (by omega), show (q4 : Int) + 4 = (q5 : Int) from by omega]; exact g5
  have g3 : t3 s (q3 : Int) = 0 := by unfold t3; rw [if_pos u3, show (q3 : Int) + vN s q3 = (q4 : Int) from by rw [n3]; omega]; exact g4
  have g2 : t2 s (q2 : Int) = 0 := by unfold t2; rw [if_pos u2, show (q2 : Int) + vN s q2 = (q3 : Int) from by rw [n2]; omega]; exact g3
  have hg : rg s = 0 := by
    show t0 s 0 = 0
    unfold t0
    rw [if_pos (by omega)]
    unfold t1
    rw [if_pos (by omega), show (0 : Int) + 1 + 1 = (q2 : Int) from by omega]
    exact g2
  have hr : ∀ i, rv s i = (match i with | 0 => nm s 0 1 | 1 => nm s 1 1 | 2 => vV s (rp s 2) | 3 => vV s (rp s 3) | 4 => nm s (rp s 4) 4 | 5 => vV s (rp s 5) | 6 => vV s (rp s 6) | 7 => vV s (rp s 7) | 8 => vV s (rp s 8) | 9 => vV s (rp s 9) | 10 => vV s (rp s 10) | _ => 0) := fun i => by unfold rv; rw [if_pos hg]; rfl
  refine ⟨hg, (hr 0).trans w0, (hr 1).trans w1, ?_, ?_, ?_, ?_, ?_, ?_, ?_, ?_, ?_⟩
  · have := hr 2; simp only [r2] at this; exact this.trans w2
  · have := hr 3; simp only [r3] at this; exact this.trans w3
  · have := hr 4; simp only [r4] at this; exact this.trans w4
  · have := hr 5; simp only [r5] at this; exact this.trans w5
  · have := hr 6; simp only [r6] at this; exact this.trans w6
  · have := hr 7; simp only [r7] at this; exact this.trans w7
  · have := hr 8; simp only [r8] at this; exact this.trans w8
  · have := hr 9; simp only [r9] at this; exact this.trans w9
  · have := hr 10; simp only [r10] at this; exact this.trans w10
end Go.Proofs.Ytlnnghbbjbimoaa.ReplyV
