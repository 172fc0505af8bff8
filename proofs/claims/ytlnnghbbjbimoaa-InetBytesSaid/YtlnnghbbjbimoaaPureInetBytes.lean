/- InetBytes, the plain law. -/
import Derived.Test.YtlnnghbbjbimoaaNum
import Derived.Test.YtlnnghbbjbimoaaPNum
import Derived.Test.YtlnnghbbjbimoaaBytes
import Derived.Test.YtlnnghbbjbimoaaInetOf2
import Derived.Test.YtlnnghbbjbimoaaPBx5
import Derived.Test.YtlnnghbbjbimoaaPBx2
import Derived.Test.YtlnnghbbjbimoaaPBx3
import Derived.Test.YtlnnghbbjbimoaaPBx4
namespace Go.Proofs.Ytlnnghbbjbimoaa.Pure
open Go Go.RowKit Go.Proofs.Ytlnnghbbjbimoaa.PB Go.Proofs.Ytlnnghbbjbimoaa.PNum Go.Proofs.Ytlnnghbbjbimoaa.Num Go.Proofs.Ytlnnghbbjbimoaa.Reader Go.Proofs.Ytlnnghbbjbimoaa.InetOf Go.Proofs.Ytlnnghbbjbimoaa.Bytes Go.Proofs.Ytlnnghbbjbimoaa.Spread Go.Proofs.YtlnnghbbjbimoaaW.PrintWords Go.Proofs.YtlnnghbbjbimoaaW.PrintLast Go.Proofs.YtlnnghbbjbimoaaW.PrintMore
set_option linter.unusedSimpArgs false
theorem num_l (s : ByteArray) (y : ByteArray) (z : Int) (hs : s.size ≤ 8) (d : Nat) : ∀ (k j : Nat), j + d = s.size → d < k → flashlockref09_Num.l0 k s (nm s 0 j) j y z = some (y, z, nm s 0 s.size) := by
  induction d with
  | zero =>
    intro k j h hk
    obtain ⟨k, rfl⟩ : ∃ m, k = m + 1 := ⟨k - 1, by omega⟩
    simp only [flashlockref09_Num.l0]
    rw [if_neg (by omega), show j = s.size from by omega]
  | succ d ih =>
    intro k j h hk
    obtain ⟨k, rfl⟩ : ∃ m, k = m + 1 := ⟨k - 1, by omega⟩
    have hr := nm_range s 0 j; have hb := bt_r s j
    have hp : (256 : Int) ^ j ≤ 72057594037927936 := by
      have h8 : ∀ q : Fin 8, (256 : Int) ^ (q : Nat) ≤ 72057594037927936 := by decide
      exact h8 ⟨j, by omega⟩
    simp only [flashlockref09_Num.l0]
    rw [if_pos (by omega), if_pos (by omega), owru (x := 256 * nm s 0 j) (by omega), owru (x := bt s j) (by omega), owru (x := 256 * nm s 0 j + bt s j) (by omega), owr (x := (j : Int) + 1) (by omega)]
    have e : 256 * nm s 0 j + bt s j = nm s 0 (j + 1) := by simp only [nm, Int.zero_add]; omega
    rw [e, show (j : Int) + 1 = ((j + 1 : Nat) : Int) from by omega]
    exact ih k (j + 1) (by omega) (by omega)
theorem number_v (k : Nat) (s : ByteArray) (hs : s.size ≤ 8) (hk : s.size < k) : flashlockref10_number.f k s = some (nm s 0 s.size) := by
  unfold flashlockref10_number.f flashlockref09_Num.f
  have ht : flashlockref09_Take.f s 0 s.size = some (s.extract s.size s.size, 0, s) := by
    unfold flashlockref09_Take.f
    rw [if_pos rfl, if_neg (by omega), if_neg (by omega), if_pos (by omega), if_pos (by omega), Int.toNat_natCast, ext_all]
  rw [ht, Option.bind_some]
  have := num_l s (s.extract s.size s.size) 0 hs s.size k 0 (by omega) (by omega)
  simp only [nm] at this
  have h0 : ((0 : Nat) : Int) = 0 := rfl
  rw [h0] at this
  rw [this]; rfl
theorem refOf_v (k : Nat) (s : ByteArray) (hk : 16 ≤ k) : flashlockref10_Of.f k s = some (ov s) := by
  unfold flashlockref10_Of.f ov
  by_cases h4 : s.size = 4
  · rw [if_pos (by omega), if_pos h4, number_v k s (by omega) (by omega), h4]; rfl
  · rw [if_neg (by omega), if_neg h4]
    by_cases h16 : s.size = 16
    · have z1 : (s.extract 0 8).size = 8 := by rw [ByteArray.size_extract]; omega
      have z2 : (s.extract 8 s.size).size = 8 := by rw [ByteArray.size_extract]; omega
      rw [if_pos (by omega), if_pos h16, if_pos (by omega), if_pos (by omega), number_v k _ (by omega) (by omega), z1, Option.bind_some, number_v k _ (by omega) (by omega), z2, Option.bind_some, nm_ext s 0 8 (by omega) 8 (by omega), nm_ext s 8 s.size (by omega) 8 (by omega)]
      rfl
    · rw [if_neg (by omega), if_neg h16]
theorem refRight_v (v h l : Int) : flashlockref10_Right.f v h l = some (rt v h l) := by
  unfold flashlockref10_Right.f rt
  by_cases h4 : v = 4
  · by_cases h0 : h = 0 <;> simp [h4, h0]
  · by_cases h6 : v = 6 <;> simp [h4, h6]
theorem be4_8 (l : Int) : (be 8 l).drop 4 = be 4 l := by simp [be]
theorem refBytes_v (k : Nat) (v h l : Int) (hk : 16 ≤ k) (hh : 0 ≤ h ∧ h < 18446744073709551616) (hl : 0 ≤ l ∧ l < 18446744073709551616) : flashlockref10_Bytes.f k v h l = some (byv v h l) := by
  unfold flashlockref10_Bytes.f byv
  rw [refRight_v, Option.bind_some]
  by_cases hr : rt v h l = true
  · rw [if_pos hr, if_pos hr]
    by_cases h4 : v = 4
    · rw [if_pos h4, if_pos h4]
      have := putNum_f 4 k l hl.1 hl.2 (by omega) (by omega)
      rw [show ((4 : Nat) : Int) = 4 from rfl] at this
      rw [this, Option.bind_some]
      have e : (sp h l).drop 12 = be 4 l := by
        unfold sp
        rw [List.drop_append, be_length, List.drop_of_length_le (by rw [be_length]; omega), be4_8, List.nil_append]
      rw [e]
    · rw [if_neg h4, if_neg h4]
      have e1 := putNum_f 8 k h hh.1 hh.2 (by omega) (by omega)
      have e2 := putNum_f 8 k l hl.1 hl.2 (by omega) (by omega)
      rw [show ((8 : Nat) : Int) = 8 from rfl] at e1 e2
      rw [e1, Option.bind_some, e2, Option.bind_some, if_pos (by simp [strOfNums_size, be_length]), ← str_append]; rfl
  · rw [if_neg hr, if_neg hr]
theorem of_bytes (v h l : Int) (hh : 0 ≤ h ∧ h < 18446744073709551616) (hl : 0 ≤ l ∧ l < 18446744073709551616) (hr : rt v h l = true) : ov (byv v h l) = (h, l, v, true) := by
  unfold byv
  rw [if_pos hr]
  have hd := of_decide_eq_true hr
  by_cases h4 : v = 4
  · rw [if_pos h4]
    have e : (sp h l).drop 12 = be 4 l := by
      unfold sp
      rw [List.drop_append, be_length, List.drop_of_length_le (by rw [be_length]; omega), be4_8, List.nil_append]
    rw [e]
    unfold ov
    have n4 := nm_be 4 [] [] l hl.1 (by omega)
    simp only [List.nil_append, List.append_nil, List.length_nil] at n4
    rw [if_pos (by rw [strOfNums_size, be_length]), show (0 : Int) = ((0 : Nat) : Int) from rfl, n4]
    have h0 : h = 0 := by omega
    rw [h0, h4]; rfl
  · rw [if_neg h4]
    have h6 : v = 6 := by omega
    have n1 := nm_be 8 [] (be 8 l) h hh.1 (by omega)
    have n2 := nm_be 8 (be 8 h) [] l hl.1 (by omega)
    simp only [List.nil_append, List.append_nil, List.length_nil] at n1 n2
    rw [be_length] at n2
    unfold ov
    rw [if_neg (by rw [strOfNums_size, sp_length]; omega), if_pos (by rw [strOfNums_size, sp_length])]
    unfold sp
    rw [show (0 : Int) = ((0 : Nat) : Int) from rfl, n1, show (8 : Int) = ((8 : Nat) : Int) from rfl, n2, h6]
theorem ov_range (s : ByteArray) : (0 ≤ (ov s).1 ∧ (ov s).1 < 18446744073709551616) ∧ 0 ≤ (ov s).2.1 ∧ (ov s).2.1 < 18446744073709551616 := by
  have r4 := nm_range s 0 4; have r8 := nm_range s 0 8; have r88 := nm_range s 8 8
  unfold ov
  split
  · simp only; omega
  · split <;> simp only <;> omega
theorem bytes_of (s : ByteArray) (hok : (ov s).2.2.2 = true) : byv (ov s).2.2.1 (ov s).1 (ov s).2.1 = s := by
  have r4 := nm_range s 0 4
  unfold ov at hok ⊢
  by_cases h4 : s.size = 4
  · rw [if_pos h4]
    simp only
    unfold byv
    rw [if_pos (by unfold rt; simp; omega), if_pos rfl]
    have e : (sp 0 (nm s 0 4)).drop 12 = be 4 (nm s 0 4) := by
      unfold sp
      rw [List.drop_append, be_length, List.drop_of_length_le (by rw [be_length]; omega), be4_8, List.nil_append]
    have := be_nm s 0 4 (by omega)
    rw [show ((0 : Nat) : Int) = 0 from rfl] at this
    rw [e, this, show 0 + 4 = s.size from by omega, ext_all]
  · rw [if_neg h4] at hok ⊢
    by_cases h16 : s.size = 16
    · rw [if_pos h16]
      simp only
      unfold byv
      rw [if_pos (by unfold rt; simp), if_neg (by decide)]
      have e1 := be_nm s 0 8 (by omega)
      have e2 := be_nm s 8 8 (by omega)
      rw [show ((0 : Nat) : Int) = 0 from rfl] at e1
      rw [show ((8 : Nat) : Int) = 8 from rfl] at e2
      unfold sp
      rw [str_append, e1, e2]
      have : s.extract 0 (0 + 8) ++ s.extract 8 (8 + 8) = s.extract 0 s.size := by
        apply ByteArray.ext
        simp only [ByteArray.data_append, ByteArray.data_extract]
        rw [Array.extract_append_extract]
        congr 1; omega
      rw [this, ext_all]
    · rw [if_neg h16] at hok; exact absurd hok (by decide)
theorem InetBytes : ∀ (a0 : Int) (a1_0 : Int) (a1_1 : Int) (a2 : ByteArray), (Lit.int .i64 a0).wf = true → (Lit.int .u64 a1_0).wf = true → (Lit.int .u64 a1_1).wf = true → a2.size ≤ 140737488351232 → ∃ k, flashlocklaw10_InetBytes.f k a0 a1_0 a1_1 a2 = some true := by
  intro v h l s hv hh hl hs
  have hh : 0 ≤ h ∧ h < 18446744073709551616 := by simp only [Lit.wf, Bool.and_eq_true, decide_eq_true_eq] at hh; exact ⟨hh.1, by have := hh.2; have e : IntKind.u64.max = 18446744073709551615 := rfl; omega⟩
  have hl : 0 ≤ l ∧ l < 18446744073709551616 := by simp only [Lit.wf, Bool.and_eq_true, decide_eq_true_eq] at hl; exact ⟨hl.1, by have := hl.2; have e : IntKind.u64.max = 18446744073709551615 := rfl; omega⟩
  have lives : flashlocklaw10_lives.f = some true := by kernel_rfl
  have hb : ∀ v h l : Int, (0 ≤ h ∧ h < 18446744073709551616) → (0 ≤ l ∧ l < 18446744073709551616) → inet_Bytes.f v h l = some (byv v h l) := fun v h l hh hl => by unfold inet_Bytes.f; rw [if_pos ⟨hh, hl⟩]
  have hof : ∀ s : ByteArray, s.size < 4611686018427387904 → inet_Of.f s = some (ov s) := fun s h => by unfold inet_Of.f; rw [if_pos h]
  have hri : inet_Right.f v h l = some (rt v h l) := by
    have := refRight_v v h l
    unfold inet_Right.f rt
    by_cases h6 : v = 6
    · simp [h6]
    · by_cases h4 : v = 4
      · by_cases h0 : h = 0
        · by_cases h1 : l < 4294967296
          · simp [h4, h0, h1]; omega
          · simp [h4, h0, h1]; omega
        · simp [h4, h0]
      · simp [h6, h4]
  have hbz : (byv v h l).size ≤ 16 := by
    unfold byv
    split
    · split
      · rw [strOfNums_size]; simp [sp_length]
      · rw [strOfNums_size, sp_length]; omega
    · show 0 ≤ 16; omega
  have j0 : flashlocklaw10_InetBytes.j0 20 v false h l = some true := by
    simp only [flashlocklaw10_InetBytes.j0]
    rw [if_neg (by decide), hb v h l hh hl, Option.bind_some, hof _ (by omega), Option.bind_some, hri, Option.bind_some]
    by_cases hr : rt v h l = true
    · rw [of_bytes v h l hh hl hr, hr]
      simp [lives]
    · have e : byv v h l = ⟨#[]⟩ := by unfold byv; rw [if_neg hr]
      have e2 : ov (byv v h l) = (0, 0, 0, false) := by rw [e]; rfl
      rw [e2, show rt v h l = false from by simpa using hr]
      simp [lives]
  refine ⟨20, ?_⟩
  unfold flashlocklaw10_InetBytes.f
  by_cases hz : (s.size : Int) > 40
  · rw [if_pos hz, lives]; rfl
  · rw [if_neg hz, hof s (by omega), Option.bind_some, refOf_v 20 s (by omega), Option.bind_some, if_neg (by simp), if_pos rfl, if_neg (by simp), hb v h l hh hl, Option.bind_some, refBytes_v 20 v h l (by omega) hh hl, Option.bind_some, if_pos rfl]
    by_cases hok : (ov s).2.2.2 = true
    · have hrg := ov_range s
      rw [if_pos hok, hb _ _ _ hrg.1 hrg.2, Option.bind_some, bytes_of s hok]
      simpa using j0
    · rw [if_neg hok]; exact j0
end Go.Proofs.Ytlnnghbbjbimoaa.Pure
