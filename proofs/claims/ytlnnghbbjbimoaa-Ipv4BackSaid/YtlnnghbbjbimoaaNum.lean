/- Numbers and their bytes. -/
import Derived.Test.YtlnnghbbjbimoaaBe
import Derived.Test.YtlnnghbbjbimoaaReader2
namespace Go.Proofs.Ytlnnghbbjbimoaa.Num
open Go Go.RowKit Go.Proofs.Ytlnnghbbjbimoaa.PNum Go.Proofs.Ytlnnghbbjbimoaa.Reader Go.Proofs.YtlnnghbbjbimoaaW.PrintWords Go.Proofs.YtlnnghbbjbimoaaW.PrintLast Go.Proofs.YtlnnghbbjbimoaaW.PrintMore
set_option linter.unusedVariables false
set_option linter.unusedSimpArgs false
theorem bt_nums (xs : List Int) (i : Nat) (v : Int) (hx : xs[i]? = some v) (h : 0 ≤ v ∧ v ≤ 255) : bt (strOfNums xs) (i : Int) = v := by
  obtain ⟨hi, hv⟩ := List.getElem?_eq_some_iff.1 hx
  unfold bt
  rw [dif_pos (by rw [strOfNums_size]; omega)]
  have : (strOfNums xs)[((i : Int)).toNat]'(by rw [strOfNums_size]; simpa using hi) = UInt8.ofNat (xs[i]).toNat := by
    simp [strOfNums, ByteArray.getElem_eq_getElem_data]
  rw [this, hv, UInt8.toNat_ofNat']
  omega
theorem nm_be (n : Nat) : ∀ (pre suf : List Int) (x : Int), 0 ≤ x → x < 256 ^ n → nm (strOfNums (pre ++ (be n x ++ suf))) pre.length n = x := by
  induction n with
  | zero => intro pre suf x h0 h1; simp at h1; simp only [nm]; omega
  | succ n ih =>
    intro pre suf x h0 h1
    have h2 : x / 256 < 256 ^ n := by rw [Int.pow_succ] at h1; omega
    simp only [nm, be]
    have e : pre ++ (be n (x / 256) ++ [x % 256] ++ suf) = pre ++ (be n (x / 256) ++ ([x % 256] ++ suf)) := by simp
    rw [e, ih pre ([x % 256] ++ suf) (x / 256) (by omega) h2]
    have hb : bt (strOfNums (pre ++ (be n (x / 256) ++ ([x % 256] ++ suf)))) ((pre.length : Int) + n) = x % 256 := by
      have := bt_nums (pre ++ (be n (x / 256) ++ ([x % 256] ++ suf))) (pre.length + n) (x % 256) (by
        rw [List.getElem?_append_right (by omega), List.getElem?_append_right (by rw [be_length]; omega), be_length]
        simp) (by omega)
      simpa using this
    rw [hb]; omega
theorem ext_one (s : ByteArray) (a n : Nat) (h : a + n < s.size) : s.extract a (a + n) ++ strOfNums [bt s ((a : Int) + n)] = s.extract a (a + n + 1) := by
  apply ByteArray.ext
  have hd : a + n < s.data.size := h
  rw [ByteArray.data_append, ByteArray.data_extract, ByteArray.data_extract, Array.extract_succ_right (by omega) hd]
  have e : (strOfNums [bt s ((a : Int) + n)]).data = #[s.data[a + n]] := by
    have hb : bt s ((a : Int) + n) = (s.data[a + n]).toNat := by
      unfold bt
      have : ((a : Int) + n).toNat = a + n := by omega
      rw [dif_pos (by omega)]
      simp [ByteArray.getElem_eq_getElem_data, this]
    rw [hb]
    simp [strOfNums]
  rw [e]
  rfl
theorem be_nm (s : ByteArray) (a : Nat) (n : Nat) (h : a + n ≤ s.size) : strOfNums (be n (nm s a n)) = s.extract a (a + n) := by
  induction n with
  | zero => simp only [be, nm]; rw [str_nil]; apply ByteArray.ext; simp
  | succ n ih =>
    have hb := bt_r s ((a : Int) + n)
    simp only [be, nm]
    rw [str_append, show (nm s a n * 256 + bt s ((a : Int) + n)) / 256 = nm s a n from by omega, show (nm s a n * 256 + bt s ((a : Int) + n)) % 256 = bt s ((a : Int) + n) from by omega, ih (by omega), ext_one s a n (by omega)]
    rfl
theorem ext_all (s : ByteArray) : s.extract 0 s.size = s := by
  apply ByteArray.ext
  rw [ByteArray.data_extract]
  exact Array.extract_size
end Go.Proofs.Ytlnnghbbjbimoaa.Num
