/- The document's Get of a reply: what it answers. -/
import Derived.Test.YtlnnghbbjbimoaaRefVar
import Derived.Test.YtlnnghbbjbimoaaReplyGet
import Derived.Test.YtlnnghbbjbimoaaPGx5
import Derived.Test.YtlnnghbbjbimoaaPGx3
import Derived.Test.YtlnnghbbjbimoaaPGx4
namespace Go.Proofs.Ytlnnghbbjbimoaa.RefGet
open Go Go.RowKit Go.Proofs.Ytlnnghbbjbimoaa.PG Go.Proofs.Ytlnnghbbjbimoaa.Reader Go.Proofs.Ytlnnghbbjbimoaa.PNum Go.Proofs.Ytlnnghbbjbimoaa.Num Go.Proofs.Ytlnnghbbjbimoaa.VarV Go.Proofs.Ytlnnghbbjbimoaa.RefVar Go.Proofs.Ytlnnghbbjbimoaa.ReplyGet Go.Proofs.YtlnnghbbjbimoaaW.PrintWords Go.Proofs.YtlnnghbbjbimoaaW.PrintLast Go.Proofs.YtlnnghbbjbimoaaW.PrintMore
set_option linter.unusedVariables false
set_option linter.unusedSimpArgs false
theorem num_l (s y : ByteArray) (z : Int) (hs : s.size ≤ 8) (d : Nat) : ∀ (k j : Nat), j + d = s.size → d < k → flashlockref09_Num.l0 k s (nm s 0 j) j y z = some (y, z, nm s 0 s.size) := by
  induction d with
  | zero =>
    intro k j h hk
    obtain ⟨k, rfl⟩ : ∃ m, k = m + 1 := ⟨k - 1, by omega⟩
    simp only [flashlockref09_Num.l0]
    rw [if_neg (by omega), show j = s.size from by omega]
  | succ d ih =>
    intro k j h hk
    obtain ⟨k, rfl⟩ : ∃ m, k = m + 1 := ⟨k - 1, by omega⟩
    have hr := nm_range s 0 j; have hb := bt_r s j
    have hp : (256 : Int) ^ j ≤ 72057594037927936 := by
      have h8 : ∀ q : Fin 8, (256 : Int) ^ (q : Nat) ≤ 72057594037927936 := by decide
      exact h8 ⟨j, by omega⟩
    simp only [flashlockref09_Num.l0]
    rw [if_pos (by omega), if_pos (by omega), owru (x := 256 * nm s 0 j) (by omega), owru (x := bt s j) (by omega), owru (x := 256 * nm s 0 j + bt s j) (by omega), owr (x := (j : Int) + 1) (by omega)]
    have e : 256 * nm s 0 j + bt s j = nm s 0 (j + 1) := by simp only [nm, Int.zero_add]; omega
    rw [e, show (j : Int) + 1 = ((j + 1 : Nat) : Int) from by omega]
    exact ih k (j + 1) (by omega) (by omega)
theorem num_v (k : Nat) (hk : 20 ≤ k) (s : ByteArray) (a w : Nat) (hw : w ≤ 8) (ha : a ≤ s.size) : flashlockref09_Num.f k (s.extract a s.size) 0 w = some (if (a : Int) + w ≤ s.size then (s.extract (a + w) s.size, 0, nm s a w) else (s.extract a s.size, 5, 0)) := by
  have hz : (s.extract a s.size).size = s.size - a := by rw [ByteArray.size_extract]; omega
  unfold flashlockref09_Num.f flashlockref09_Take.f
  rw [if_pos rfl, if_neg (by omega)]
  by_cases h : (a : Int) + w ≤ s.size
  · rw [if_pos h, if_neg (by omega), if_pos (by omega), if_pos (by omega), Option.bind_some, show ((w : Int)).toNat = w from by omega, ext_ext s a w (by omega)]
    have e : (s.extract a s.size).extract 0 w = s.extract a (a + w) := by
      apply ByteArray.ext
      simp only [ByteArray.data_extract]
      rw [Array.extract_extract]
      congr 1
      omega
    have hq : (s.extract a (a + w)).size = w := by rw [ByteArray.size_extract]; omega
    have := num_l (s.extract a (a + w)) (s.extract (a + w) s.size) 0 (by omega) w k 0 (by omega) (by omega)
    simp only [nm] at this
    rw [show ((0 : Nat) : Int) = 0 from rfl] at this
    rw [e]
    simp only
    rw [this, hq, nm_ext s a (a + w) (by omega) w (by omega)]
  · rw [if_neg h, if_pos (by omega), Option.bind_some]
    obtain ⟨k, rfl⟩ : ∃ m, k = m + 1 := ⟨k - 1, by omega⟩
    simp only [flashlockref09_Num.l0]
    rw [if_neg (by show ¬ (0 : Int) < ((⟨#[]⟩ : ByteArray).size : Int); decide)]
theorem num_e (k : Nat) (hk : 1 ≤ k) (S : ByteArray) (E w : Int) (hE : E ≠ 0) : flashlockref09_Num.f k S E w = some (S, E, 0) := by
  unfold flashlockref09_Num.f flashlockref09_Take.f
  rw [if_neg hE, Option.bind_some]
  obtain ⟨k, rfl⟩ : ∃ m, k = m + 1 := ⟨k - 1, by omega⟩
  simp only [flashlockref09_Num.l0]
  rw [if_neg (by show ¬ (0 : Int) < ((⟨#[]⟩ : ByteArray).size : Int); decide)]
theorem var_e (k : Nat) (S : ByteArray) (E : Int) (hE : E ≠ 0) : flashlockref09_Var.f k S E = some (S, E, 0) := by
  unfold flashlockref09_Var.f; rw [if_neg hE]
theorem err_tail (S : ByteArray) (E : Int) (hE : E ≠ 0) (x5 x6 x7 x8 x9 : Int) (d : Nat) : ∀ (K i : Nat) (l : List Int), l.length = 6 → i + d = 6 → d + 2 ≤ K → flashlockref39_Get.l0 K x5 x6 x7 x8 x9 l i S E = some (0, 0, 0, 0, 0, 0, 0, 0, 0, 0, 0, E) := by
  induction d with
  | zero =>
    intro K i l hl hi hK
    obtain ⟨K, rfl⟩ : ∃ m, K = m + 1 := ⟨K - 1, by omega⟩
    obtain ⟨K, rfl⟩ : ∃ m, K = m + 1 := ⟨K - 1, by omega⟩
    simp only [flashlockref39_Get.l0]
    rw [if_neg (by omega), if_neg hE]
    simp only [flashlockref39_Get.j1]
    rw [if_neg (by decide), if_neg hE]
  | succ d ih =>
    intro K i l hl hi hK
    obtain ⟨K, rfl⟩ : ∃ m, K = m + 1 := ⟨K - 1, by omega⟩
    simp only [flashlockref39_Get.l0]
    rw [if_pos (by omega), var_e K S E hE, Option.bind_some, if_pos (by omega), if_pos (by omega), owr (by omega), show (i : Int) + 1 = ((i + 1 : Nat) : Int) from by omega]
    exact ih K (i + 1) _ (by simp [hl]) (by omega) (by omega)
def F11 (s : ByteArray) (p : Int) (l : List Int) : List Int := l
def F10 (s : ByteArray) (p : Int) (l : List Int) : List Int := F11 s (p + vN s p) (l.set 5 (vV s p))
def F9 (s : ByteArray) (p : Int) (l : List Int) : List Int := F10 s (p + vN s p) (l.set 4 (vV s p))
def F8 (s : ByteArray) (p : Int) (l : List Int) : List Int := F9 s (p + vN s p) (l.set 3 (vV s p))
def F7 (s : ByteArray) (p : Int) (l : List Int) : List Int := F8 s (p + vN s p) (l.set 2 (vV s p))
def F6 (s : ByteArray) (p : Int) (l : List Int) : List Int := F7 s (p + vN s p) (l.set 1 (vV s p))
def F5 (s : ByteArray) (p : Int) (l : List Int) : List Int := F6 s (p + vN s p) (l.set 0 (vV s p))
theorem tail11 (s : ByteArray) (x5 x6 x7 x8 x9 : Int) (K : Nat) (hK : 2 ≤ K) (p : Nat) (hp : p ≤ s.size) (l : List Int) (hl : l.length = 6) : flashlockref39_Get.l0 K x5 x6 x7 x8 x9 l 6 (s.extract p s.size) 0 = (if t11 s p = 0 then some (wrap64 x5, wrap64 x6, x7, x8, x9 % 4294967296, rd (F11 s p l) 0, rd (F11 s p l) 1, rd (F11 s p l) 2, rd (F11 s p l) 3, rd (F11 s p l) 4, rd (F11 s p l) 5, 0) else some (0, 0, 0, 0, 0, 0, 0, 0, 0, 0, 0, t11 s p)) := by
  have hz : (s.extract p s.size).size = s.size - p := by rw [ByteArray.size_extract]; omega
  obtain ⟨K, rfl⟩ : ∃ m, K = m + 1 := ⟨K - 1, by omega⟩
  obtain ⟨K, rfl⟩ : ∃ m, K = m + 1 := ⟨K - 1, by omega⟩
  simp only [flashlockref39_Get.l0]
  rw [if_neg (by decide), if_pos trivial]
  simp only [flashlockref39_Get.j1]
  unfold t11 F11
  by_cases h : (p : Int) = s.size
  · rw [if_pos h, if_neg (by simp; omega), if_pos rfl]
    simp [hl]
  · rw [if_neg h, if_pos (by simp; omega), if_neg (by decide)]
theorem tail10 (s : ByteArray) (hs : s.size ≤ 1000) (x5 x6 x7 x8 x9 : Int) (K : Nat) (hK : 71 ≤ K) (p : Nat) (hp : p ≤ s.size) (l : List Int) (hl : l.length = 6) : flashlockref39_Get.l0 K x5 x6 x7 x8 x9 l 5 (s.extract p s.size) 0 = (if t10 s p = 0 then some (wrap64 x5, wrap64 x6, x7, x8, x9 % 4294967296, rd (F10 s p l) 0, rd (F10 s p l) 1, rd (F10 s p l) 2, rd (F10 s p l) 3, rd (F10 s p l) 4, rd (F10 s p l) 5, 0) else some (0, 0, 0, 0, 0, 0, 0, 0, 0, 0, 0, t10 s p)) := by
  obtain ⟨K, rfl⟩ : ∃ m, K = m + 1 := ⟨K - 1, by omega⟩
  simp only [flashlockref39_Get.l0]
  rw [if_pos (by decide), refVar_v K (by omega) s p hp hs, Option.bind_some, if_pos (by decide), if_pos (by omega), show wrap64 (5 + 1) = 6 from by kernel_rfl]
  unfold t10 F10
  by_cases h : vE s p = 0
  · obtain ⟨n, hn, v1, v2, v3, v4, v5, v6, v7⟩ := var_v s p h (by omega)
    rw [if_pos h, if_pos h, hn]
    simp only
    rw [show ((n : Int)).toNat = n from by omega, show (p : Int) + (n : Int) = ((p + n : Nat) : Int) from by omega, show ((5 : Int)).toNat = 5 from rfl]
    exact tail11 s x5 x6 x7 x8 x9 K (by omega) (p + n) (by omega) _ (by simp [hl])
  · rw [if_neg h, if_neg h, if_neg h]
    simp only
    rw [show (6 : Int) = ((6 : Nat) : Int) from rfl]
    exact err_tail _ _ h x5 x6 x7 x8 x9 0 K 6 _ (by simp [hl]) (by omega) (by omega)
theorem tail9 (s : ByteArray) (hs : s.size ≤ 1000) (x5 x6 x7 x8 x9 : Int) (K : Nat) (hK : 72 ≤ K) (p : Nat) (hp : p ≤ s.size) (l : List Int) (hl : l.length = 6) : flashlockref39_Get.l0 K x5 x6 x7 x8 x9 l 4 (s.extract p s.size) 0 = (if t9 s p = 0 then some (wrap64 x5, wrap64 x6, x7, x8, x9 % 4294967296, rd (F9 s p l) 0, rd (F9 s p l) 1, rd (F9 s p l) 2, rd (F9 s p l) 3, rd (F9 s p l) 4, rd (F9 s p l) 5, 0) else some (0, 0, 0, 0, 0, 0, 0, 0, 0, 0, 0, t9 s p)) := by
  obtain ⟨K, rfl⟩ : ∃ m, K = m + 1 := ⟨K - 1, by omega⟩
  simp only [flashlockref39_Get.l0]
  rw [if_pos (by decide), refVar_v K (by omega) s p hp hs, Option.bind_some, if_pos (by decide), if_pos (by omega), show wrap64 (4 + 1) = 5 from by kernel_rfl]
  unfold t9 F9
  by_cases h : vE s p = 0
  · obtain ⟨n, hn, v1, v2, v3, v4, v5, v6, v7⟩ := var_v s p h (by omega)
    rw [if_pos h, if_pos h, hn]
    simp only
    rw [show ((n : Int)).toNat = n from by omega, show (p : Int) + (n : Int) = ((p + n : Nat) : Int) from by omega, show ((4 : Int)).toNat = 4 from rfl]
    exact tail10 s hs x5 x6 x7 x8 x9 K (by omega) (p + n) (by omega) _ (by simp [hl])
  · rw [if_neg h, if_neg h, if_neg h]
    simp only
    rw [show (5 : Int) = ((5 : Nat) : Int) from rfl]
    exact err_tail _ _ h x5 x6 x7 x8 x9 1 K 5 _ (by simp [hl]) (by omega) (by omega)
theorem tail8 (s : ByteArray) (hs : s.size ≤ 1000) (x5 x6 x7 x8 x9 : Int) (K : Nat) (hK : 73 ≤ K) (p : Nat) (hp : p ≤ s.size) (l : List Int) (hl : l.length = 6) : flashlockref39_Get.l0 K x5 x6 x7 x8 x9 l 3 (s.extract p s.size) 0 = (if t8 s p = 0 then some (wrap64 x5, wrap64 x6, x7, x8, x9 % 4294967296, rd (F8 s p l) 0, rd (F8 s p l) 1, rd (F8 s p l) 2, rd (F8 s p l) 3, rd (F8 s p l) 4, rd (F8 s p l) 5, 0) else some (0, 0, 0, 0, 0, 0, 0, 0, 0, 0, 0, t8 s p)) := by
  obtain ⟨K, rfl⟩ : ∃ m, K = m + 1 := ⟨K - 1, by omega⟩
  simp only [flashlockref39_Get.l0]
  rw [if_pos (by decide), refVar_v K (by omega) s p hp hs, Option.bind_some, if_pos (by decide), if_pos (by omega), show wrap64 (3 + 1) = 4 from by kernel_rfl]
  unfold t8 F8
  by_cases h : vE s p = 0
  · obtain ⟨n, hn, v1, v2, v3, v4, v5, v6, v7⟩ := var_v s p h (by omega)
    rw [if_pos h, if_pos h, hn]
    simp only
    rw [show ((n : Int)).toNat = n from by omega, show (p : Int) + (n : Int) = ((p + n : Nat) : Int) from by omega, show ((3 : Int)).toNat = 3 from rfl]
    exact tail9 s hs x5 x6 x7 x8 x9 K (by omega) (p + n) (by omega) _ (by simp [hl])
  · rw [if_neg h, if_neg h, if_neg h]
    simp only
    rw [show (4 : Int) = ((4 : Nat) : Int) from rfl]
    exact err_tail _ _ h x5 x6 x7 x8 x9 2 K 4 _ (by simp [hl]) (by omega) (by omega)
theorem tail7 (s : ByteArray) (hs : s.size ≤ 1000) (x5 x6 x7 x8 x9 : Int) (K : Nat) (hK : 74 ≤ K) (p : Nat) (hp : p ≤ s.size) (l : List Int) (hl : l.length = 6) : flashlockref39_Get.l0 K x5 x6 x7 x8 x9 l 2 (s.extract p s.size) 0 = (if t7 s p = 0 then some (wrap64 x5, wrap64 x6, x7, x8, x9 % 4294967296, rd (F7 s p l) 0, rd (F7 s p l) 1, rd (F7 s p l) 2, rd (F7 s p l) 3, rd (F7 s p l) 4, rd (F7 s p l) 5, 0) else some (0, 0, 0, 0, 0, 0, 0, 0, 0, 0, 0, t7 s p)) := by
  obtain ⟨K, rfl⟩ : ∃ m, K = m + 1 := ⟨K - 1, by omega⟩
  simp only [flashlockref39_Get.l0]
  rw [if_pos (by decide), refVar_v K (by omega) s p hp hs, Option.bind_some, if_pos (by decide), if_pos (by omega), show wrap64 (2 + 1) = 3 from by kernel_rfl]
  unfold t7 F7
  by_cases h : vE s p = 0
  · obtain ⟨n, hn, v1, v2, v3, v4, v5, v6, v7⟩ := var_v s p h (by omega)
    rw [if_pos h, if_pos h, hn]
    simp only
    rw [show ((n : Int)).toNat = n from by omega, show (p : Int) + (n : Int) = ((p + n : Nat) : Int) from by omega, show ((2 : Int)).toNat = 2 from rfl]
    exact tail8 s hs x5 x6 x7 x8 x9 K (by omega) (p + n) (by omega) _ (by simp [hl])
  · rw [if_neg h, if_neg h, if_neg h]
    simp only
    rw [show (3 : Int) = ((3 : Nat) : Int) from rfl]
    exact err_tail _ _ h x5 x6 x7 x8 x9 3 K 3 _ (by simp [hl]) (by omega) (by omega)
theorem tail6 (s : ByteArray) (hs : s.size ≤ 1000) (x5 x6 x7 x8 x9 : Int) (K : Nat) (hK : 75 ≤ K) (p : Nat) (hp : p ≤ s.size) (l : List Int) (hl : l.length = 6) : flashlockref39_Get.l0 K x5 x6 x7 x8 x9 l 1 (s.extract p s.size) 0 = (if t6 s p = 0 then some (wrap64 x5, wrap64 x6, x7, x8, x9 % 4294967296, rd (F6 s p l) 0, rd (F6 s p l) 1, rd (F6 s p l) 2, rd (F6 s p l) 3, rd (F6 s p l) 4, rd (F6 s p l) 5, 0) else some (0, 0, 0, 0, 0, 0, 0, 0, 0, 0, 0, t6 s p)) := by
  obtain ⟨K, rfl⟩ : ∃ m, K = m + 1 := ⟨K - 1, by omega⟩
  simp only [flashlockref39_Get.l0]
  rw [if_pos (by decide), refVar_v K (by omega) s p hp hs, Option.bind_some, if_pos (by decide), if_pos (by omega), show wrap64 (1 + 1) = 2 from by kernel_rfl]
  unfold t6 F6
  by_cases h : vE s p = 0
  · obtain ⟨n, hn, v1, v2, v3, v4, v5, v6, v7⟩ := var_v s p h (by omega)
    rw [if_pos h, if_pos h, hn]
    simp only
    rw [show ((n : Int)).toNat = n from by omega, show (p : Int) + (n : Int) = ((p + n : Nat) : Int) from by omega, show ((1 : Int)).toNat = 1 from rfl]
    exact tail7 s hs x5 x6 x7 x8 x9 K (by omega) (p + n) (by omega) _ (by simp [hl])
  · rw [if_neg h, if_neg h, if_neg h]
    simp only
    rw [show (2 : Int) = ((2 : Nat) : Int) from rfl]
    exact err_tail _ _ h x5 x6 x7 x8 x9 4 K 2 _ (by simp [hl]) (by omega) (by omega)
theorem tail5 (s : ByteArray) (hs : s.size ≤ 1000) (x5 x6 x7 x8 x9 : Int) (K : Nat) (hK : 76 ≤ K) (p : Nat) (hp : p ≤ s.size) (l : List Int) (hl : l.length = 6) : flashlockref39_Get.l0 K x5 x6 x7 x8 x9 l 0 (s.extract p s.size) 0 = (if t5 s p = 0 then some (wrap64 x5, wrap64 x6, x7, x8, x9 % 4294967296, rd (F5 s p l) 0, rd (F5 s p l) 1, rd (F5 s p l) 2, rd (F5 s p l) 3, rd (F5 s p l) 4, rd (F5 s p l) 5, 0) else some (0, 0, 0, 0, 0, 0, 0, 0, 0, 0, 0, t5 s p)) := by
  obtain ⟨K, rfl⟩ : ∃ m, K = m + 1 := ⟨K - 1, by omega⟩
  simp only [flashlockref39_Get.l0]
  rw [if_pos (by decide), refVar_v K (by omega) s p hp hs, Option.bind_some, if_pos (by decide), if_pos (by omega), show wrap64 (0 + 1) = 1 from by kernel_rfl]
  unfold t5 F5
  by_cases h : vE s p = 0
  · obtain ⟨n, hn, v1, v2, v3, v4, v5, v6, v7⟩ := var_v s p h (by omega)
    rw [if_pos h, if_pos h, hn]
    simp only
    rw [show ((n : Int)).toNat = n from by omega, show (p : Int) + (n : Int) = ((p + n : Nat) : Int) from by omega, show ((0 : Int)).toNat = 0 from rfl]
    exact tail6 s hs x5 x6 x7 x8 x9 K (by omega) (p + n) (by omega) _ (by simp [hl])
  · rw [if_neg h, if_neg h, if_neg h]
    simp only
    rw [show (1 : Int) = ((1 : Nat) : Int) from rfl]
    exact err_tail _ _ h x5 x6 x7 x8 x9 5 K 1 _ (by simp [hl]) (by omega) (by omega)
theorem ans_e (s : ByteArray) (E : Int) (h : rg s = E) (hE : E ≠ 0) : some (rv s 0, rv s 1, rv s 2, rv s 3, rv s 4, rv s 5, rv s 6, rv s 7, rv s 8, rv s 9, rv s 10, rg s) = some (0, 0, 0, 0, 0, 0, 0, 0, 0, 0, 0, E) := by
  have hv : ∀ i, rv s i = 0 := fun i => by unfold rv; rw [if_neg (by rw [h]; exact hE)]
  simp only [hv, h]
set_option maxRecDepth 10000 in
theorem refGet_v (k : Nat) (hk : 200 ≤ k) (s : ByteArray) (hs : s.size ≤ 1000) : flashlockref39_Get.f k s = some (rv s 0, rv s 1, rv s 2, rv s 3, rv s 4, rv s 5, rv s 6, rv s 7, rv s 8, rv s 9, rv s 10, rg s) := by
  unfold flashlockref39_Get.f
  have n0 := num_v k (by omega) s 0 1 (by omega) (by omega)
  rw [ext_all, show ((1 : Nat) : Int) = 1 from rfl, show ((0 : Nat) : Int) = 0 from rfl] at n0
  have et : ∀ (S : ByteArray) (E : Int), E ≠ 0 → ∀ x5 x6 x7 x8 x9 : Int, flashlockref39_Get.l0 k x5 x6 x7 x8 x9 (List.replicate 6 0) 0 S E = some (0, 0, 0, 0, 0, 0, 0, 0, 0, 0, 0, E) := fun S E hE x5 x6 x7 x8 x9 => err_tail S E hE x5 x6 x7 x8 x9 6 k 0 _ (by simp) (by omega) (by omega)
  rw [n0]
  by_cases c0 : (0 : Int) + 1 ≤ s.size
  · have h0 : rg s = t1 s 1 := by show t0 s 0 = _; unfold t0; rw [if_pos c0]; rfl
    rw [if_pos c0, Option.bind_some]
    simp only
    have n1 := num_v k (by omega) s (0 + 1) 1 (by omega) (by omega)
    rw [show ((1 : Nat) : Int) = 1 from rfl] at n1
    rw [n1]
    by_cases c1 : (1 : Int) + 1 ≤ s.size
    · have h1 : rg s = t2 s 2 := by rw [h0]; unfold t1; rw [if_pos c1]; rfl
      rw [if_pos c1, Option.bind_some]
      simp only
      rw [refVar_v k (by omega) s (0 + 1 + 1) (by omega) hs, show ((0 + 1 + 1 : Nat) : Int) = 2 from rfl]
      by_cases c2 : vE s 2 = 0
      · obtain ⟨m2, hm2, a1, a2, a3, a4, a5, a6, a7⟩ := var_v s 2 c2 (by omega)
        rw [show ((2 : Nat) : Int) = 2 from rfl] at hm2
        have h2 : rg s = t3 s (2 + vN s 2) := by rw [h1]; unfold t2; rw [if_pos c2]
        rw [if_pos c2, Option.bind_some]
        simp only
        rw [hm2] at h2 ⊢
        rw [show ((m2 : Int)).toNat = m2 from by omega, refVar_v k (by omega) s (0 + 1 + 1 + m2) (by omega) hs]
        have e2 : ((0 + 1 + 1 + m2 : Nat) : Int) = 2 + (m2 : Int) := by omega
        rw [e2]
        by_cases c3 : vE s (2 + (m2 : Int)) = 0
        · have c3' : vE s ((2 + m2 : Nat) : Int) = 0 := by rw [show ((2 + m2 : Nat) : Int) = 2 + (m2 : Int) from by omega]; exact c3
          obtain ⟨m3, hm3, b1, b2, b3, b4, b5, b6, b7⟩ := var_v s (2 + m2) c3' (by omega)
          rw [show ((2 + m2 : Nat) : Int) = 2 + (m2 : Int) from by omega] at hm3
          have h3 : rg s = t4 s (2 + (m2 : Int) + vN s (2 + (m2 : Int))) := by rw [h2]; unfold t3; rw [if_pos c3]
          rw [if_pos c3, Option.bind_some]
          simp only
          rw [hm3] at h3 ⊢
          rw [show ((m3 : Int)).toNat = m3 from by omega]
          have n4 := num_v k (by omega) s (0 + 1 + 1 + m2 + m3) 4 (by omega) (by omega)
          have e3 : ((0 + 1 + 1 + m2 + m3 : Nat) : Int) = 2 + (m2 : Int) + (m3 : Int) := by omega
          rw [show ((4 : Nat) : Int) = 4 from rfl, e3] at n4
          rw [n4]
          by_cases c4 : 2 + (m2 : Int) + (m3 : Int) + 4 ≤ s.size
          · have h4 : rg s = t5 s (2 + (m2 : Int) + (m3 : Int) + 4) := by rw [h3]; unfold t4; rw [if_pos c4]
            rw [if_pos c4, Option.bind_some]
            simp only
            have ht := tail5 s hs (nm s 0 1) (nm s 1 1) (vV s 2) (vV s (2 + (m2 : Int))) (nm s (2 + (m2 : Int) + (m3 : Int)) 4) k (by omega) (0 + 1 + 1 + m2 + m3 + 4) (by omega) (List.replicate 6 0) (by simp)
            have e4 : ((0 + 1 + 1 + m2 + m3 + 4 : Nat) : Int) = 2 + (m2 : Int) + (m3 : Int) + 4 := by omega
            rw [e4] at ht
            rw [if_pos (by decide), ht]
            by_cases c5 : t5 s (2 + (m2 : Int) + (m3 : Int) + 4) = 0
            · rw [if_pos c5]
              have hg : rg s = 0 := by rw [h4]; exact c5
              have q2 : rp s 2 = 2 := rfl
              have q3 : rp s 3 = 2 + (m2 : Int) := by show rp s 2 + vN s (rp s 2) = _; rw [q2, hm2]
              have q4 : rp s 4 = 2 + (m2 : Int) + (m3 : Int) := by show rp s 3 + vN s (rp s 3) = _; rw [q3, hm3]
              have q5 : rp s 5 = 2 + (m2 : Int) + (m3 : Int) + 4 := by show rp s 4 + 4 = _; rw [q4]
              have y0 := nm_range s 0 1; have y1 := nm_range s 1 1; have y4 := nm_range s (2 + (m2 : Int) + (m3 : Int)) 4
              revert q5
              generalize 2 + (m2 : Int) + (m3 : Int) + 4 = q
              intro q5
              have q6 : rp s 6 = q + vN s q := by show rp s 5 + vN s (rp s 5) = _; rw [q5]
              have q7 : rp s 7 = q + vN s q + vN s (q + vN s q) := by show rp s 6 + vN s (rp s 6) = _; rw [q6]
              have hr : ∀ i, rv s i = (match i with | 0 => nm s 0 1 | 1 => nm s 1 1 | 2 => vV s (rp s 2) | 3 => vV s (rp s 3) | 4 => nm s (rp s 4) 4 | 5 => vV s (rp s 5) | 6 => vV s (rp s 6) | 7 => vV s (rp s 7) | 8 => vV s (rp s 8) | 9 => vV s (rp s 9) | 10 => vV s (rp s 10) | _ => 0) := fun i => by unfold rv; rw [if_pos hg]; rfl
              have hF : F5 s q (List.replicate 6 0) = [vV s (rp s 5), vV s (rp s 6), vV s (rp s 7), vV s (rp s 8), vV s (rp s 9), vV s (rp s 10)] := by
                have w8 : rp s 8 = rp s 7 + vN s (rp s 7) := rfl
                have w9 : rp s 9 = rp s 8 + vN s (rp s 8) := rfl
                have w10 : rp s 10 = rp s 9 + vN s (rp s 9) := rfl
                have w6 : rp s 6 = rp s 5 + vN s (rp s 5) := rfl
                have w7 : rp s 7 = rp s 6 + vN s (rp s 6) := rfl
                rw [w10, w9, w8, w7, w6, q5]
                rfl
              rw [hF, owr (by omega), owr (by omega), Int.emod_eq_of_lt y4.1 (by omega)]
              simp only [hr, hg, q2, q3, q4]
              rfl
            · rw [if_neg c5, ans_e s _ h4 c5]
          · have h4 : rg s = 5 := by rw [h3]; unfold t4; rw [if_neg c4]
            rw [if_neg c4, Option.bind_some]
            simp only
            rw [if_pos (by decide), et _ 5 (by decide), ans_e s 5 h4 (by decide)]
        · have h3 : rg s = vE s (2 + (m2 : Int)) := by rw [h2]; unfold t3; rw [if_neg c3]
          rw [if_neg c3, Option.bind_some]
          simp only
          rw [num_e k (by omega) _ _ 4 c3, Option.bind_some]
          simp only
          rw [if_pos (by decide), et _ _ c3, ans_e s _ h3 c3]
      · have h2 : rg s = vE s 2 := by rw [h1]; unfold t2; rw [if_neg c2]
        rw [if_neg c2, Option.bind_some]
        simp only
        rw [var_e k _ _ c2, Option.bind_some]
        simp only
        rw [num_e k (by omega) _ _ 4 c2, Option.bind_some]
        simp only
        rw [if_pos (by decide), et _ _ c2, ans_e s _ h2 c2]
    · have h1 : rg s = 5 := by rw [h0]; unfold t1; rw [if_neg c1]
      rw [if_neg c1, Option.bind_some]
      simp only
      rw [var_e k _ 5 (by decide), Option.bind_some]
      simp only
      rw [var_e k _ 5 (by decide), Option.bind_some]
      simp only
      rw [num_e k (by omega) _ 5 4 (by decide), Option.bind_some]
      simp only
      rw [if_pos (by decide), et _ 5 (by decide), ans_e s 5 h1 (by decide)]
  · have h0 : rg s = 5 := by show t0 s 0 = _; unfold t0; rw [if_neg c0]
    rw [if_neg c0, Option.bind_some]
    simp only
    rw [num_e k (by omega) _ 5 1 (by decide), Option.bind_some]
    simp only
    rw [var_e k _ 5 (by decide), Option.bind_some]
    simp only
    rw [var_e k _ 5 (by decide), Option.bind_some]
    simp only
    rw [num_e k (by omega) _ 5 4 (by decide), Option.bind_some]
    simp only
    rw [if_pos (by decide), et _ 5 (by decide), ans_e s 5 h0 (by decide)]
end Go.Proofs.Ytlnnghbbjbimoaa.RefGet
