/- PortsBack, the plain law. -/
import Derived.Test.YtlnnghbbjbimoaaPortsV
import Derived.Test.YtlnnghbbjbimoaaPQx4
import Derived.Test.YtlnnghbbjbimoaaPQx3
import Derived.Test.YtlnnghbbjbimoaaPQx1
namespace Go.Proofs.Ytlnnghbbjbimoaa.Pure
open Go Go.RowKit Go.Proofs.Ytlnnghbbjbimoaa.PQ Go.Proofs.Ytlnnghbbjbimoaa.PNum Go.Proofs.Ytlnnghbbjbimoaa.Reader Go.Proofs.Ytlnnghbbjbimoaa.PortsOf Go.Proofs.Ytlnnghbbjbimoaa.PortsMake Go.Proofs.Ytlnnghbbjbimoaa.PortsV Go.Proofs.YtlnnghbbjbimoaaW.PrintWords Go.Proofs.YtlnnghbbjbimoaaW.PrintLast Go.Proofs.YtlnnghbbjbimoaaW.PrintMore
set_option linter.unusedSimpArgs false
theorem bt_app (a b : ByteArray) (i : Int) (h0 : 0 ≤ i) (h : i < a.size) : bt (a ++ b) i = bt a i := by
  unfold bt
  rw [dif_pos (by rw [ByteArray.size_append]; omega), dif_pos (by omega)]
  congr 2
  exact ByteArray.getElem_append_left (by omega)
theorem bt_nums (xs : List Int) (i : Nat) (hi : i < xs.length) (h : 0 ≤ xs[i] ∧ xs[i] ≤ 255) : bt (strOfNums xs) (i : Int) = xs[i] := by
  unfold bt
  rw [dif_pos (by rw [strOfNums_size]; omega)]
  have : (strOfNums xs)[((i : Int)).toNat]'(by rw [strOfNums_size]; simpa using hi) = UInt8.ofNat (xs[i]).toNat := by
    simp [strOfNums, ByteArray.getElem_eq_getElem_data]
  rw [this, UInt8.toNat_ofNat']
  omega
theorem bt_at (xs : List Int) (b : ByteArray) (i : Nat) (v : Int) (hx : xs[i]? = some v) (h : 0 ≤ v ∧ v ≤ 255) : bt (strOfNums xs ++ b) (i : Int) = v := by
  obtain ⟨hi, hv⟩ := List.getElem?_eq_some_iff.1 hx
  rw [bt_app _ _ _ (by omega) (by rw [strOfNums_size]; omega), bt_nums xs i hi (by rw [hv]; exact h), hv]
theorem str_nil_app (b : ByteArray) : strOfNums [] ++ b = b := by
  apply ByteArray.ext
  simp [strOfNums]
theorem be2 (x : Int) : be 2 (x % 18446744073709551616) = [x / 256 % 256, x % 256] := by
  simp only [be, List.nil_append, List.cons_append]
  rw [show x % 18446744073709551616 / 256 % 256 = x / 256 % 256 from by omega, show x % 18446744073709551616 % 256 = x % 256 from by omega]
theorem make_v (k : Nat) (hk : 3 ≤ k) (p a b : Int) (pl : ByteArray) (hs : pl.size ≤ 140737488351232) : flashlockref13_Make.f k p a b pl = some (mv p a b pl) := by
  unfold flashlockref13_Make.f mv
  by_cases hl : (pl.size : Int) > 65515
  · rw [if_pos hl, if_pos hl]
  · rw [if_neg hl, if_neg hl]
    have n2 : ∀ x : Int, flashlockref09_PutNum.f k (IntKind.u64.wrap x) 2 = some (strOfNums [x / 256 % 256, x % 256]) := by
      intro x
      rw [IntKind.wrap_u64, ← be2]
      exact putNum_f 2 k _ (by omega) (by omega) (by omega) (by omega)
    rw [n2 a, Option.bind_some, n2 b, Option.bind_some, if_pos (by simp [strOfNums_size])]
    have ha : ∀ x y : ByteArray, (x ++ y).size = x.size + y.size := fun x y => ByteArray.size_append
    by_cases h6 : p = 6
    · subst h6
      have z : (⟨#[0, 0, 0, 0, 0, 0, 0, 0, 80, 0, 0, 0, 0, 0, 0, 0]⟩ : ByteArray) = strOfNums [0, 0, 0, 0, 0, 0, 0, 0, 80, 0, 0, 0, 0, 0, 0, 0] := by decide
      rw [if_pos rfl, if_pos rfl, if_pos (by simp [strOfNums_size, ha]), z, if_pos (by simp [strOfNums_size, ha]; omega), ← str_append, ← str_append]
      rfl
    · rw [if_neg h6, if_neg h6]
      by_cases h7 : p = 17
      · subst h7
        have z : (⟨#[0, 0]⟩ : ByteArray) = strOfNums [0, 0] := by decide
        rw [if_pos rfl, if_pos rfl, owr (x := 8 + (pl.size : Int)) (by omega), n2, Option.bind_some, if_pos (by simp [strOfNums_size, ha]), if_pos (by simp [strOfNums_size, ha]), z, if_pos (by simp [strOfNums_size, ha]; omega), ← str_append, ← str_append, ← str_append]
        rfl
      · rw [if_neg h7, if_neg h7, str_nil_app]
theorem pv_tcp (a b : Int) (pl : ByteArray) (hl : ¬ (pl.size : Int) > 65515) : pv 6 (mv 6 a b pl) = (a % 65536, b % 65536, 0) := by
  unfold mv
  rw [if_neg hl, if_pos rfl]
  generalize hx : [a / 256 % 256, a % 256, b / 256 % 256, b % 256, 0, 0, 0, 0, 0, 0, 0, 0, 80, 0, 0, 0, 0, 0, 0, 0] = xs
  have hsz : (strOfNums xs ++ pl).size = 20 + pl.size := by rw [ByteArray.size_append, strOfNums_size, ← hx]; rfl
  have h0 : bt (strOfNums xs ++ pl) 0 = a / 256 % 256 := bt_at xs pl 0 _ (by rw [← hx]; rfl) (by omega)
  have h1 : bt (strOfNums xs ++ pl) (0 + 1) = a % 256 := bt_at xs pl 1 _ (by rw [← hx]; rfl) (by omega)
  have h2 : bt (strOfNums xs ++ pl) 2 = b / 256 % 256 := bt_at xs pl 2 _ (by rw [← hx]; rfl) (by omega)
  have h3 : bt (strOfNums xs ++ pl) (2 + 1) = b % 256 := bt_at xs pl 3 _ (by rw [← hx]; rfl) (by omega)
  have h12 : bt (strOfNums xs ++ pl) 12 = 80 := bt_at xs pl 12 _ (by rw [← hx]; rfl) (by omega)
  unfold pv
  rw [if_pos rfl, hsz, if_neg (by omega), nm1, h12, if_pos (by omega), nm2, nm2, h0, h1, h2, h3]
  congr 2 <;> omega
theorem pv_udp (a b : Int) (pl : ByteArray) (hl : ¬ (pl.size : Int) > 65515) : pv 17 (mv 17 a b pl) = (a % 65536, b % 65536, 0) := by
  unfold mv
  rw [if_neg hl, if_neg (by decide), if_pos rfl]
  generalize hx : [a / 256 % 256, a % 256, b / 256 % 256, b % 256, (8 + (pl.size : Int)) / 256 % 256, (8 + (pl.size : Int)) % 256, 0, 0] = xs
  have hsz : (strOfNums xs ++ pl).size = 8 + pl.size := by rw [ByteArray.size_append, strOfNums_size, ← hx]; rfl
  have h0 : bt (strOfNums xs ++ pl) 0 = a / 256 % 256 := bt_at xs pl 0 _ (by rw [← hx]; rfl) (by omega)
  have h1 : bt (strOfNums xs ++ pl) (0 + 1) = a % 256 := bt_at xs pl 1 _ (by rw [← hx]; rfl) (by omega)
  have h2 : bt (strOfNums xs ++ pl) 2 = b / 256 % 256 := bt_at xs pl 2 _ (by rw [← hx]; rfl) (by omega)
  have h3 : bt (strOfNums xs ++ pl) (2 + 1) = b % 256 := bt_at xs pl 3 _ (by rw [← hx]; rfl) (by omega)
  have h4 : bt (strOfNums xs ++ pl) 4 = (8 + (pl.size : Int)) / 256 % 256 := bt_at xs pl 4 _ (by rw [← hx]; rfl) (by omega)
  have h5 : bt (strOfNums xs ++ pl) (4 + 1) = (8 + (pl.size : Int)) % 256 := bt_at xs pl 5 _ (by rw [← hx]; rfl) (by omega)
  unfold pv
  rw [if_neg (by decide), if_pos rfl, hsz, if_neg (by omega), nm2 _ 4, h4, h5, if_pos (by omega), nm2, nm2, h0, h1, h2, h3]
  congr 2 <;> omega
theorem mv_size (p a b : Int) (pl : ByteArray) : (mv p a b pl).size ≤ 20 + pl.size := by
  unfold mv
  split
  · show 0 ≤ _; omega
  · split
    · rw [ByteArray.size_append, strOfNums_size]; simp
    · split
      · rw [ByteArray.size_append, strOfNums_size]; simp
      · rw [str_nil_app]; omega
theorem body (p a b : Int) (pl : ByteArray) (hs : pl.size ≤ 140737488351232) (k : Nat) : flashlocklaw13_PortsBack.j0 (k + 8) p pl false a b = some true := by
  simp only [flashlocklaw13_PortsBack.j0]
  have e1 : ports_Make.f p a b pl = some (mv p a b pl) := rfl
  rw [if_neg (by decide), e1, Option.bind_some, make_v _ (by omega) p a b pl hs, Option.bind_some, if_pos rfl]
  simp only [flashlocklaw13_PortsBack.j1]
  by_cases hl : (pl.size : Int) > 65515
  · have e : mv p a b pl = ⟨#[]⟩ := by unfold mv; rw [if_pos hl]
    rw [if_pos (by simpa using hl), e, if_pos (by show ByteArray.toList.loop _ 0 [] = []; unfold ByteArray.toList.loop; rfl), if_pos hl, lives_v]; rfl
  · have hz := mv_size p a b pl
    have e2 : ports_Of.f p (mv p a b pl) = some (pv p (mv p a b pl)) := by unfold ports_Of.f; rw [if_pos (by omega)]
    rw [if_neg (by simpa using hl), e2, Option.bind_some]
    have w16 : ∀ x : Int, wrap64 (IntKind.u16.wrap x) = x % 65536 := by
      intro x
      have : IntKind.u16.wrap x = x % 65536 := by simp [IntKind.wrap, IntKind.bits, IntKind.signed]
      rw [this, owr (by omega)]
    by_cases h6 : p = 6
    · subst h6
      rw [pv_tcp a b pl hl, if_pos rfl, if_pos rfl]
      simp [flashlocklaw13_PortsBack.j2, w16, lives_v]
    · by_cases h7 : p = 17
      · subst h7
        rw [pv_udp a b pl hl, if_pos rfl, if_neg (by decide)]
        simp [flashlocklaw13_PortsBack.j2, w16, lives_v]
      · have e3 : pv p (mv p a b pl) = (0, 0, 0) := by unfold pv; rw [if_neg h6, if_neg h7]
        have e4 : mv p a b pl = pl := by unfold mv; rw [if_neg hl, if_neg h6, if_neg h7, str_nil_app]
        have h8 : (p != 17) = true := by simpa using h7
        rw [e3, if_pos rfl, if_neg h6, h8, e4]
        simp [flashlocklaw13_PortsBack.j2, lives_v]
theorem PortsBack : ∀ (a0 : Int) (a1_0 : Int) (a1_1 : Int) (a2 : ByteArray), (Lit.int .i64 a0).wf = true → (Lit.int .i64 a1_0).wf = true → (Lit.int .i64 a1_1).wf = true → a2.size ≤ 140737488351232 → ∃ k, flashlocklaw13_PortsBack.f k a0 a1_0 a1_1 a2 = some true := by
  intro p a b pl _ _ _ hs
  refine ⟨8, ?_⟩
  have ht : flashlocklaw13_PortsBack.j0 8 p pl true a b = some true := by
    simp only [flashlocklaw13_PortsBack.j0]; simp [lives_v]
  have hf := body p a b pl hs 0
  have hc : ∀ c : Bool, flashlocklaw13_PortsBack.j0 8 p pl c a b = some true := fun c => by cases c; exact hf; exact ht
  unfold flashlocklaw13_PortsBack.f
  split
  · split <;> exact hc _
  · exact hc _
end Go.Proofs.Ytlnnghbbjbimoaa.Pure
