/- ipv4.Make: its bytes. -/
import Derived.Test.YtlnnghbbjbimoaaIpv4S
import Derived.Test.YtlnnghbbjbimoaaOctPut
import Derived.Test.YtlnnghbbjbimoaaPVx2
import Derived.Test.YtlnnghbbjbimoaaPVx1
namespace Go.Proofs.Ytlnnghbbjbimoaa.Ipv4M
open Go Go.RowKit Go.Proofs.Ytlnnghbbjbimoaa.PV Go.Proofs.Ytlnnghbbjbimoaa.PNum Go.Proofs.Ytlnnghbbjbimoaa.Ipv4S Go.Proofs.YtlnnghbbjbimoaaW.PrintWords Go.Proofs.YtlnnghbbjbimoaaW.PrintLast Go.Proofs.YtlnnghbbjbimoaaW.PrintMore
set_option linter.unusedVariables false
set_option linter.unusedSimpArgs false
theorem oPutU16_f (l : List Int) (n : Int) (hl : l.length ≤ 1000000) : octets_PutU16.f l n = some (l ++ [n / 256 % 256, n % 256]) := by
  unfold octets_PutU16.f; rw [if_pos (by omega)]
/-- the head up to the sum -/
def ha (T F p : Int) : List Int := [69, 0, T / 256 % 256, T % 256, 0, 0, F / 256 % 256, F % 256, 0, p % 256]
/-- the addresses -/
def hb (s d : Int) : List Int := [s / 65536 / 256 % 256, s / 65536 % 256, s / 256 % 256, s % 256, d / 65536 / 256 % 256, d / 65536 % 256, d / 256 % 256, d % 256]
def hsum (T F p s d : Int) : Int := 65535 - fd (ws (ha T F p ++ hb s d))
def pkt (T F p s d : Int) : List Int := ha T F p ++ [hsum T F p s d / 256 % 256, hsum T F p s d % 256] ++ hb s d
theorem by_ha (T F p : Int) : By (ha T F p) := by intro x hx; simp [ha] at hx; omega
theorem by_hb (s d : Int) : By (hb s d) := by intro x hx; simp [hb] at hx; omega
theorem by_app (a b : List Int) (h : By a) (h' : By b) : By (a ++ b) := by
  intro x hx; rcases List.mem_append.1 hx with q | q
  · exact h x q
  · exact h' x q
theorem ws_zero (T F p s d : Int) : ws (ha T F p ++ ([0, 0] ++ hb s d)) = ws (ha T F p ++ hb s d) := by simp [ha, hb, ws]
theorem pkt_size (T F p s d : Int) : (strOfNums (pkt T F p s d)).size = 20 := by rw [strOfNums_size]; rfl
theorem oPutU32_f (l : List Int) (n : Int) (hl : l.length ≤ 1000) : octets_PutU32.f l n = some (l ++ [n / 65536 / 256 % 256, n / 65536 % 256, n / 256 % 256, n % 256]) := by
  unfold octets_PutU32.f
  rw [oPutU16_f _ _ (by omega), Option.bind_some, oPutU16_f _ _ (by simp; omega), Option.bind_some]; simp
theorem make_j (k : Nat) (x1 : ByteArray) (F a0 a1 a2 a3 p a5 a6 a7 : Int) (b : Bool) (hx : x1.size ≤ 65515) (hk : 70000000 ≤ k) :
    ipv4_Make.j0 (k + 1) x1 F a0 a1 a2 a3 p a5 a6 a7 b = some (strOfNums (pkt (20 + x1.size) F p (a1 % 4294967296) (a3 % 4294967296)) ++ x1) := by
  simp only [ipv4_Make.j0]
  rw [owr (x := 20 + (x1.size : Int)) (by omega), and32, and32, owr (x := a1 % 4294967296) (by omega), owr (x := a3 % 4294967296) (by omega)]
  generalize hs : a1 % 4294967296 = s; generalize hd : a3 % 4294967296 = d
  generalize hT : 20 + (x1.size : Int) = T
  rw [oPutU16_f _ _ (by simp), Option.bind_some, oPutU16_f _ _ (by simp), Option.bind_some, oPutU16_f _ _ (by simp), Option.bind_some, Option.bind_some, if_pos (by simp), oPutU16_f _ _ (by simp), Option.bind_some, oPutU32_f _ _ (by simp), Option.bind_some, oPutU32_f _ _ (by simp), Option.bind_some]
  have e : ((((((([69, 0] : List Int) ++ [T / 256 % 256, T % 256]) ++ [0 / 256 % 256, 0 % 256]) ++ [F / 256 % 256, F % 256]) ++ [0, p % 256]) ++ [0 / 256 % 256, 0 % 256]) ++ [s / 65536 / 256 % 256, s / 65536 % 256, s / 256 % 256, s % 256]) ++ [d / 65536 / 256 % 256, d / 65536 % 256, d / 256 % 256, d % 256] = ha T F p ++ ([0, 0] ++ hb s d) := by simp [ha, hb]
  rw [e, sum_v k _ (by_app _ _ (by_ha T F p) (by_app _ _ (by intro x hx; simp at hx; omega) (by_hb s d))) (by simp [ha, hb]) hk, Option.bind_some, ws_zero, if_pos (by simp [ha, hb]), if_pos (by simp [ha, hb]), Option.bind_some]
  have e2 : ((ha T F p ++ ([0, 0] ++ hb s d)).set (10 : Int).toNat ((65535 - fd (ws (ha T F p ++ hb s d))) / 256 % 256)).set (11 : Int).toNat ((65535 - fd (ws (ha T F p ++ hb s d))) % 256) = pkt T F p s d := by
    unfold pkt hsum; generalize ws (ha T F p ++ hb s d) = q; simp [ha]
  rw [e2, if_pos (by rw [pkt_size]; omega)]
theorem v4_lives (k : Nat) (hk : 70000001 ≤ k) : flashlocklaw11_lives.f k = some true := by
  obtain ⟨k, rfl⟩ : ∃ m, k = m + 1 := ⟨k - 1, by omega⟩
  unfold flashlocklaw11_lives.f ipv4_Make.f
  rw [if_neg (by decide), if_neg (by decide), and13, make_j k _ _ _ _ _ _ _ _ _ _ _ (by decide) (by omega), Option.bind_some]
  clear hk
  first | kernel_rfl | decide
end Go.Proofs.Ytlnnghbbjbimoaa.Ipv4M
