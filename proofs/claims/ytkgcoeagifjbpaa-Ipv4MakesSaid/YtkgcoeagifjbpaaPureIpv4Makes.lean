/- Any packet that Make builds is the document's: the pure statement behind flashlocklaw11.Ipv4Makes. -/
import Derived.Test.YtkgcoeagifjbpaaIpv4V
import Derived.Test.YtkgcoeagifjbpaaPRx9
import Derived.Test.YtkgcoeagifjbpaaPRx6
namespace Go.Proofs.Ytkgcoeagifjbpaa.Pure
open Go Go.RowKit Go.Proofs.Ytkgcoeagifjbpaa.PR Go.Proofs.Ytkgcoeagifjbpaa.Ipv4V Go.Proofs.YtkgcoeagifjbpaaW.PrintWords Go.Proofs.YtkgcoeagifjbpaaW.PrintLast Go.Proofs.YtkgcoeagifjbpaaW.PrintMore
set_option linter.unusedVariables false
set_option linter.unusedSimpArgs false

/-- the head up to the sum -/
def ha (T F p : Int) : List Int := [69, 0, T / 256 % 256, T % 256, 0, 0, F / 256 % 256, F % 256, 0, p % 256]
/-- the addresses -/
def hb (s d : Int) : List Int := [s / 65536 / 256 % 256, s / 65536 % 256, s / 256 % 256, s % 256, d / 65536 / 256 % 256, d / 65536 % 256, d / 256 % 256, d % 256]
def hsum (T F p s d : Int) : Int := 65535 - fd (ws (ha T F p ++ hb s d))
def pkt (T F p s d : Int) : List Int := ha T F p ++ [hsum T F p s d / 256 % 256, hsum T F p s d % 256] ++ hb s d
theorem by_ha (T F p : Int) : By (ha T F p) := by intro x hx; simp [ha] at hx; omega
theorem by_hb (s d : Int) : By (hb s d) := by intro x hx; simp [hb] at hx; omega
theorem by_app (a b : List Int) (h : By a) (h' : By b) : By (a ++ b) := by
  intro x hx; rcases List.mem_append.1 hx with q | q
  · exact h x q
  · exact h' x q
theorem ws_zero (T F p s d : Int) : ws (ha T F p ++ ([0, 0] ++ hb s d)) = ws (ha T F p ++ hb s d) := by simp [ha, hb, ws]
theorem pkt_size (T F p s d : Int) : (strOfNums (pkt T F p s d)).size = 20 := by rw [strOfNums_size]; rfl
theorem oPutU32_f (l : List Int) (n : Int) (hl : l.length ≤ 1000) : octets_PutU32.f l n = some (l ++ [n / 65536 / 256 % 256, n / 65536 % 256, n / 256 % 256, n % 256]) := by
  unfold octets_PutU32.f
  rw [oPutU16_f _ _ (by omega), Option.bind_some, oPutU16_f _ _ (by simp; omega), Option.bind_some]; simp
theorem make_j (k : Nat) (x1 : ByteArray) (F a0 a1 a2 a3 p a5 a6 a7 : Int) (b : Bool) (hx : x1.size ≤ 65515) (hk : 70000000 ≤ k) :
    ipv4_Make.j0 (k + 1) x1 F a0 a1 a2 a3 p a5 a6 a7 b = some (strOfNums (pkt (20 + x1.size) F p (a1 % 4294967296) (a3 % 4294967296)) ++ x1) := by
  simp only [ipv4_Make.j0]
  rw [owr (x := 20 + (x1.size : Int)) (by omega), and32, and32, owr (x := a1 % 4294967296) (by omega), owr (x := a3 % 4294967296) (by omega)]
  generalize hs : a1 % 4294967296 = s; generalize hd : a3 % 4294967296 = d
  generalize hT : 20 + (x1.size : Int) = T
  rw [oPutU16_f _ _ (by simp), Option.bind_some, oPutU16_f _ _ (by simp), Option.bind_some, oPutU16_f _ _ (by simp), Option.bind_some, Option.bind_some, if_pos (by simp), oPutU16_f _ _ (by simp), Option.bind_some, oPutU32_f _ _ (by simp), Option.bind_some, oPutU32_f _ _ (by simp), Option.bind_some]
  have e : ((((((([69, 0] : List Int) ++ [T / 256 % 256, T % 256]) ++ [0 / 256 % 256, 0 % 256]) ++ [F / 256 % 256, F % 256]) ++ [0, p % 256]) ++ [0 / 256 % 256, 0 % 256]) ++ [s / 65536 / 256 % 256, s / 65536 % 256, s / 256 % 256, s % 256]) ++ [d / 65536 / 256 % 256, d / 65536 % 256, d / 256 % 256, d % 256] = ha T F p ++ ([0, 0] ++ hb s d) := by simp [ha, hb]
  rw [e, sum_v k _ (by_app _ _ (by_ha T F p) (by_app _ _ (by intro x hx; simp at hx; omega) (by_hb s d))) (by simp [ha, hb]) hk, Option.bind_some, ws_zero, if_pos (by simp [ha, hb]), if_pos (by simp [ha, hb]), Option.bind_some]
  have e2 : ((ha T F p ++ ([0, 0] ++ hb s d)).set (10 : Int).toNat ((65535 - fd (ws (ha T F p ++ hb s d))) / 256 % 256)).set (11 : Int).toNat ((65535 - fd (ws (ha T F p ++ hb s d))) % 256) = pkt T F p s d := by
    unfold pkt hsum; generalize ws (ha T F p ++ hb s d) = q; simp [ha]
  rw [e2, if_pos (by rw [pkt_size]; omega)]
theorem low_v (k : Nat) (n : Int) (m : Nat) (hm : m < 1000) (hk : m < k) : flashlockref11_Low.f k n m = some (strOfNums (be m (n % 18446744073709551616))) := by
  unfold flashlockref11_Low.f
  rw [IntKind.wrap_u64, putNum_f m k _ (by omega) (by omega) hm hk, Option.bind_some]
theorem rmake_j (k : Nat) (x1 : ByteArray) (F a0 a1 a2 a3 p a5 a6 a7 : Int) (b : Bool) (hx : x1.size ≤ 65515) (h1 : 0 ≤ a1 ∧ a1 < 18446744073709551616) (h3 : 0 ≤ a3 ∧ a3 < 18446744073709551616) (hk : 2000 ≤ k) :
    flashlockref11_Make.j0 (k + 1) x1 F a0 a1 a2 a3 p a5 a6 a7 b = some (strOfNums (pkt (20 + x1.size) F p (a1 % 4294967296) (a3 % 4294967296)) ++ x1) := by
  simp only [flashlockref11_Make.j0]
  rw [owr (x := 20 + (x1.size : Int)) (by omega)]
  generalize hT : 20 + (x1.size : Int) = T
  have low2 : ∀ n : Int, flashlockref11_Low.f k n 2 = some (strOfNums [n / 256 % 256, n % 256]) := by
    intro n
    have t : be 2 (n % 18446744073709551616) = [n / 256 % 256, n % 256] := by
      simp only [be, List.nil_append, List.cons_append, List.cons.injEq, and_true]; omega
    rw [← t]; exact low_v k n 2 (by omega) (by omega)
  have low1 : ∀ n : Int, flashlockref11_Low.f k n 1 = some (strOfNums [n % 256]) := by
    intro n
    have t : be 1 (n % 18446744073709551616) = [n % 256] := by
      simp only [be, List.nil_append, List.cons_append, List.cons.injEq, and_true]; omega
    rw [← t]; exact low_v k n 1 (by omega) (by omega)
  have num4 : ∀ a : Int, 0 ≤ a → a < 18446744073709551616 → flashlockref09_PutNum.f k a 4 = some (strOfNums [a % 4294967296 / 65536 / 256 % 256, a % 4294967296 / 65536 % 256, a % 4294967296 / 256 % 256, a % 4294967296 % 256]) := by
    intro a h0 h1
    have t : be 4 a = [a % 4294967296 / 65536 / 256 % 256, a % 4294967296 / 65536 % 256, a % 4294967296 / 256 % 256, a % 4294967296 % 256] := by
      rw [be4]; simp only [List.nil_append, List.cons_append, List.cons.injEq, and_true]; omega
    rw [← t]; exact putNum_f 4 k a h0 h1 (by omega) (by omega)
  have z1 : (⟨#[69, 0]⟩ : ByteArray) = strOfNums [69, 0] := by decide
  have z2 : (⟨#[0, 0]⟩ : ByteArray) = strOfNums [0, 0] := by decide
  have z3 : (⟨#[0]⟩ : ByteArray) = strOfNums [0] := by decide
  have n1 := num4 a1 h1.1 h1.2
  have n3 := num4 a3 h3.1 h3.2
  have hsm := rsum_v k (ha T F p ++ hb (a1 % 4294967296) (a3 % 4294967296)) (by_app _ _ (by_ha T F p) (by_hb _ _)) (by simp [ha, hb]) hk
  generalize hs : a1 % 4294967296 = s at *; generalize hd : a3 % 4294967296 = d at *
  unfold pkt hsum
  generalize hc : 65535 - fd (ws (ha T F p ++ hb s d)) = c at *
  simp only [ha, hb, List.cons_append, List.nil_append] at hsm ⊢
  simp only [z1, z2, z3, low2, low1, n1, n3, Option.bind_some, ← str_append, List.cons_append, List.nil_append, strOfNums_size, List.length_cons, List.length_nil, Nat.reduceAdd, Nat.reduceLeDiff, if_true, hsm]
  rw [if_pos (by omega)]
theorem maker (k : Nat) (x1 : ByteArray) (a0 a1 a2 a3 p a5 a6 a7 : Int) (b : Bool) (hx : x1.size ≤ 65515) (h1 : 0 ≤ a1 ∧ a1 < 18446744073709551616) (h3 : 0 ≤ a3 ∧ a3 < 18446744073709551616) (hk : 70000001 ≤ k) :
    ∃ r, ipv4_Make.f k a0 a1 a2 a3 p a5 a6 a7 b x1 = some r ∧ flashlockref11_Make.f k a0 a1 a2 a3 p a5 a6 a7 b x1 = some r := by
  obtain ⟨k, rfl⟩ : ∃ m, k = m + 1 := ⟨k - 1, by omega⟩
  unfold ipv4_Make.f flashlockref11_Make.f
  have hx' : ¬ ((x1.size : Int) > 65515) := by omega
  rw [if_neg hx', if_neg hx']
  have e : wrap64 (Int.tmod (IntKind.u64.wrap a7) 8192) = a7 % 8192 := by
    rw [IntKind.wrap_u64, Int.tmod_eq_emod_of_nonneg (by omega)]; unfold wrap64; omega
  rw [and13, e, or13 _ (by omega), owr (x := a7 % 8192 + 8192) (by omega)]
  cases b
  · refine ⟨strOfNums (pkt (20 + x1.size) (a7 % 8192) p (a1 % 4294967296) (a3 % 4294967296)) ++ x1, ?_, ?_⟩
    · rw [if_neg (by decide)]; exact make_j k x1 (a7 % 8192) a0 a1 a2 a3 p a5 a6 a7 false hx (by omega)
    · rw [if_neg (by decide)]; exact rmake_j k x1 (a7 % 8192) a0 a1 a2 a3 p a5 a6 a7 false hx h1 h3 (by omega)
  · refine ⟨strOfNums (pkt (20 + x1.size) (a7 % 8192 + 8192) p (a1 % 4294967296) (a3 % 4294967296)) ++ x1, ?_, ?_⟩
    · rw [if_pos rfl]; exact make_j k x1 (a7 % 8192 + 8192) a0 a1 a2 a3 p a5 a6 a7 true hx (by omega)
    · rw [if_pos rfl]; exact rmake_j k x1 (a7 % 8192 + 8192) a0 a1 a2 a3 p a5 a6 a7 true hx h1 h3 (by omega)
theorem maker_big (k : Nat) (x1 : ByteArray) (a0 a1 a2 a3 p a5 a6 a7 : Int) (b : Bool) (hx : 65515 < x1.size) :
    ∃ r, ipv4_Make.f k a0 a1 a2 a3 p a5 a6 a7 b x1 = some r ∧ flashlockref11_Make.f k a0 a1 a2 a3 p a5 a6 a7 b x1 = some r := by
  unfold ipv4_Make.f flashlockref11_Make.f
  have hx' : (x1.size : Int) > 65515 := by omega
  rw [if_pos hx', if_pos hx']
  exact ⟨_, rfl, rfl⟩
theorem v4_lives (k : Nat) (hk : 70000001 ≤ k) : flashlocklaw11_lives.f k = some true := by
  obtain ⟨k, rfl⟩ : ∃ m, k = m + 1 := ⟨k - 1, by omega⟩
  unfold flashlocklaw11_lives.f ipv4_Make.f
  rw [if_neg (by decide), if_neg (by decide), and13, make_j k _ _ _ _ _ _ _ _ _ _ _ (by decide) (by omega), Option.bind_some]
  clear hk
  first | kernel_rfl | decide
theorem Ipv4Makes : ∀ (a0_0 : Int) (a0_1 : Int) (a0_2 : Int) (a0_3 : Int) (a0_4 : Int) (a0_5 : Int) (a0_6 : Int) (a0_7 : Int) (a0_8 : Bool) (a1 : ByteArray), (Lit.int .u64 a0_0).wf = true → (Lit.int .u64 a0_1).wf = true → (Lit.int .u64 a0_2).wf = true → (Lit.int .u64 a0_3).wf = true → (Lit.int .i64 a0_4).wf = true → (Lit.int .i64 a0_5).wf = true → (Lit.int .i64 a0_6).wf = true → (Lit.int .i64 a0_7).wf = true → a1.size ≤ 140737488351232 → ∃ k, flashlocklaw11_Ipv4Makes.f k a0_0 a0_1 a0_2 a0_3 a0_4 a0_5 a0_6 a0_7 a0_8 a1 = some true := by
  intro a0 a1 a2 a3 p a5 a6 a7 b x _ g1 _ g3 _ _ _ _ hx
  have uv : ∀ x : Int, (Lit.int .u64 x).wf = true → 0 ≤ x ∧ x < 18446744073709551616 := by
    intro x hx; simp [Lit.wf, IntKind.min, IntKind.max, IntKind.signed, IntKind.bits] at hx; omega
  obtain ⟨K, hK⟩ : ∃ K, K = 70000001 := ⟨_, rfl⟩
  refine ⟨K + 1, ?_⟩
  have hm : ∃ r, ipv4_Make.f K a0 a1 a2 a3 p a5 a6 a7 b x = some r ∧ flashlockref11_Make.f K a0 a1 a2 a3 p a5 a6 a7 b x = some r := by
    by_cases c : x.size ≤ 65515
    · exact maker K x a0 a1 a2 a3 p a5 a6 a7 b c (uv _ g1) (uv _ g3) (by omega)
    · exact maker_big K x a0 a1 a2 a3 p a5 a6 a7 b (by omega)
  obtain ⟨r, m1, m2⟩ := hm
  have hl := v4_lives K (by omega)
  have j : ∀ c, flashlocklaw11_Ipv4Makes.j0 (K + 1) x c a0 a1 a2 a3 p a5 a6 a7 b = some true := by
    intro c
    simp only [flashlocklaw11_Ipv4Makes.j0, m1, m2, hl, Option.bind_some, if_true]
    split <;> rfl
  unfold flashlocklaw11_Ipv4Makes.f
  rw [j, j]
  (repeat' split) <;> rfl
end Go.Proofs.Ytkgcoeagifjbpaa.Pure
