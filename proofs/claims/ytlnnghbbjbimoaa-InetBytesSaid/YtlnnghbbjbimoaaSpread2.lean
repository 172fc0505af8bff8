/- The value of inet.spread. -/
import Derived.Test.YtlnnghbbjbimoaaSpread
import Derived.Test.YtlnnghbbjbimoaaBe
import Derived.Laws.MathBits
namespace Go.Proofs.Ytlnnghbbjbimoaa.Spread
open Go Go.RowKit Go.Proofs.Ytlnnghbbjbimoaa.PT Go.Proofs.Ytlnnghbbjbimoaa.OctPut Go.Proofs.YtlnnghbbjbimoaaW.PrintWords Go.Proofs.YtlnnghbbjbimoaaW.PrintLast Go.Proofs.YtlnnghbbjbimoaaW.PrintMore
open Go.Proofs.Ytlnnghbbjbimoaa.PNum (be be_length)
set_option linter.unusedVariables false
set_option linter.unusedSimpArgs false
theorem g16 (l : List Int) (a : Int) (h : l.length ≤ 1000) : octets_PutU16.f l a = some (l ++ [a / 256 % 256, a % 256]) := by
  unfold octets_PutU16.f; rw [if_pos (by omega)]
theorem g32 (l : List Int) (a : Int) (h : l.length ≤ 990) : octets_PutU32.f l a = some (l ++ [a / 16777216 % 256, a / 65536 % 256, a / 256 % 256, a % 256]) := by
  unfold octets_PutU32.f
  rw [g16 l _ (by omega), Option.bind_some, g16 _ _ (by simp; omega)]
  simp only [Option.bind_some, List.append_assoc, List.cons_append, List.nil_append]
  rw [show a / 65536 / 256 = a / 16777216 from by omega]
theorem g64 (l : List Int) (x : Int) (h : l.length ≤ 900) (hx : 0 ≤ x ∧ x < 18446744073709551616) : octets_PutU64.f l x = some (l ++ be 8 x) := by
  unfold octets_PutU64.f
  rw [and_low32 x hx.1 hx.2, show wrap64 (x / 4294967296) = x / 4294967296 from by unfold wrap64; omega, show wrap64 (x % 4294967296) = x % 4294967296 from by unfold wrap64; omega, g32 l _ (by omega), Option.bind_some, g32 _ _ (by simp; omega)]
  simp only [Option.bind_some, be, List.append_assoc, List.cons_append, List.nil_append]
  congr 2
  simp only [List.cons.injEq, and_true]
  refine ⟨?_, ?_, ?_, ?_, ?_, ?_, ?_, ?_⟩ <;> omega
/-- the sixteen bytes of an address -/
def sp (h l : Int) : List Int := be 8 h ++ be 8 l
theorem sp_length (h l : Int) : (sp h l).length = 16 := by simp [sp, be_length]
theorem spread_ok (h l : Int) (w : World) (hh : 0 ≤ h ∧ h < 18446744073709551616) (hl : 0 ≤ l ∧ l < 18446744073709551616) :
    Calls Try.prog 118 #[.agg #[.int .u64 h, .int .u64 l]] w fun e w' => e = .returned (.agg ((sp h l).map (Value.int .u8)).toArray) ∧ Below w.heap.size w w' :=
  spread_calls h l w (be 8 h) (sp h l) (by rw [g64 [] h (by simp) hh]; rfl) (g64 _ l (by simp [be_length]) hl) (sp_length h l)
end Go.Proofs.Ytlnnghbbjbimoaa.Spread
