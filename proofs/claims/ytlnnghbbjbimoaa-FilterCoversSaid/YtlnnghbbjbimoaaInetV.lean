/- The plain values of inet's functions, and of its document's. -/
import Derived.Test.YtlnnghbbjbimoaaA128
import Derived.Test.YtlnnghbbjbimoaaPFx3
import Derived.Test.YtlnnghbbjbimoaaPFx4
import Derived.Test.YtlnnghbbjbimoaaPFx5
import Derived.Test.YtlnnghbbjbimoaaPFx6
import Derived.Test.YtlnnghbbjbimoaaPFx9
namespace Go.Proofs.Ytlnnghbbjbimoaa.InetV
open Go Go.RowKit Go.Proofs.Ytlnnghbbjbimoaa.PF Go.Proofs.Ytlnnghbbjbimoaa.A128 Go.Proofs.YtlnnghbbjbimoaaW.PrintWords Go.Proofs.YtlnnghbbjbimoaaW.PrintLast Go.Proofs.YtlnnghbbjbimoaaW.PrintMore
set_option linter.unusedVariables false
set_option linter.unusedSimpArgs false

def I64 (n : Int) : Prop := -9223372036854775808 ≤ n ∧ n ≤ 9223372036854775807
def U64 (n : Int) : Prop := 0 ≤ n ∧ n < 18446744073709551616
/-- the bits of a version -/
def size (v : Int) : Int := if v = 4 then 32 else if v = 6 then 128 else 0
/-- is an address right -/
def rgt (v h l : Int) : Bool := decide (v = 6 ∨ v = 4 ∧ h = 0 ∧ l < 4294967296)
theorem bits_v (v : Int) : inet_Bits.f v = some (size v) := by unfold inet_Bits.f size; split <;> (try split) <;> rfl
theorem size_v (v : Int) : flashlockref10_Size.f v = some (size v) := by unfold flashlockref10_Size.f size; split <;> (try split) <;> rfl
theorem right_v (v h l : Int) (hl : U64 l) : inet_Right.f v h l = some (rgt v h l) := by
  unfold inet_Right.f rgt; unfold U64 at hl
  by_cases c : v = 6
  · simp [c]
  · by_cases c4 : v = 4
    · by_cases ch : h = 0
      · simp [c, c4, ch]; rw [Bool.eq_iff_iff]; simp; omega
      · simp [c, c4, ch]
    · simp [c, c4]
theorem rright_v (v h l : Int) : flashlockref10_Right.f v h l = some (rgt v h l) := by
  unfold flashlockref10_Right.f rgt
  by_cases c4 : v = 4
  · by_cases ch : h = 0
    · simp [c4, ch]
    · simp [c4, ch]
  · simp [c4]; rw [Bool.eq_iff_iff]; simp
theorem high_v (w n : Int) (hw : U64 w) (hn : I64 n) : inet_high.f w n = some (hi w n) := by
  unfold inet_high.f hi; unfold I64 at hn
  by_cases c : n ≤ 0
  · rw [if_pos c, if_pos c]
  · have hs : (64 - n).toNat ≤ 63 := by omega
    have e : wrap64 (64 - mn n 64) = ((64 - n).toNat : Int) := by unfold mn wrap64; split <;> omega
    have h1 := p2le _ 63 hs; have h2 := p2 (64 - n).toNat
    have h3 : (2 : Int) ^ 63 = 9223372036854775808 := by decide
    rw [if_neg c, if_neg c, e, uw _ (by omega), if_pos (by omega), shl_val _ hs, uw _ (by omega), andNot_val _ _ hs hw]
/-- how many first bits of the 128 a mask keeps -/
def keep (v n : Int) : Int := (if v = 4 then 96 else 0) + mx 0 (mn n (size v))
theorem keep_in (v n : Int) : 0 ≤ keep v n ∧ keep v n ≤ 128 := by unfold keep mx mn size; split <;> (split <;> split <;> omega)
theorem mask_v (v h l n : Int) (hh : U64 h) (hl : U64 l) : inet_Mask.f v h l n = some (if rgt v h l = true then (hi h (keep v n), hi l (keep v n - 64)) else (0, 0)) := by
  unfold inet_Mask.f
  rw [right_v _ _ _ hl, Option.bind_some]
  cases rgt v h l
  · rfl
  · simp only [if_true, bits_v, Option.bind_some]
    have hk := keep_in v n
    by_cases c : v = 4
    · have e : wrap64 (mx 0 (mn n (size v)) + 96) = keep v n := by unfold keep at hk ⊢; rw [if_pos c] at *; unfold wrap64; omega
      rw [if_pos c, e, show wrap64 (keep v n - 64) = keep v n - 64 by unfold wrap64; omega, high_v _ _ hh (by unfold I64; omega), Option.bind_some, high_v _ _ hl (by unfold I64; omega)]; rfl
    · have e : mx 0 (mn n (size v)) = keep v n := by unfold keep; rw [if_neg c]; omega
      rw [if_neg c, e, show wrap64 (keep v n - 64) = keep v n - 64 by unfold wrap64; omega, high_v _ _ hh (by unfold I64; omega), Option.bind_some, high_v _ _ hl (by unfold I64; omega)]; rfl
/-- an address is in a net -/
def inn (v h l h' l' n : Int) : Bool := rgt v h l && rgt v h' l' && decide (num h l / 2 ^ (128 - keep v n).toNat = num h' l' / 2 ^ (128 - keep v n).toNat)
theorem in_v (v h l h' l' n : Int) (hh : U64 h) (hl : U64 l) (hh' : U64 h') (hl' : U64 l') : inet_In.f v h l h' l' n = some (inn v h l h' l' n) := by
  unfold inet_In.f inn
  rw [right_v _ _ _ hl, Option.bind_some, right_v _ _ _ hl', Option.bind_some, mask_v _ _ _ _ hh hl, mask_v _ _ _ _ hh' hl']
  cases h1 : rgt v h l <;> cases h2 : rgt v h' l' <;> simp
  rw [Bool.eq_iff_iff]; simp
  exact mask_iff h l h' l' _ (keep_in v n) hh hh' hl hl'
end Go.Proofs.Ytlnnghbbjbimoaa.InetV
