/-
  No cell of these rows narrows 'for every input' (looked for: loops, veiled, ifaces, maps, wideKeys, modest, calm, conditions, laid).
  DERIVED. THE GIVEN ROWS OF THIS SEAT. 15 by the template 'for every input the law returns true; each argument reads behind the call as it read before'; 0 by the template 'total and deterministic' (their statements: YtclfambjkolckaaTotals.lean).
  GIVEN WITH THE SEED: the statements are not yours to turn. If you find one false, say at which input.
  Laid BY PROGRAM, IN A SANDBOX (cutbox-rows.mjs): the forced cells as the released guide's own fill.sh prints them over the translation 169d85b0f619f867… (all of the seat's roots in one cut). By AI agents, Wed Nov 11 2026. No macro, syntax, notation, axiom, sorry.
-/
import Derived.Test.YtclfambjkolckaaChecked
import GoSem.Claim
import GoSem.ClaimJoined
import GoSem.ClaimMapViews
import Derived.JoinedTies
import Derived.KernelRfl
namespace Go.Proofs.Ytclfambjkolckaa
/- THE CELL 'sum', in the pinned program and in every row, IS THE sha256 OF THE DUMP (.gsa) THAT YtclfambjkolckaaProg.lean LOADS. Nothing in Lean hashes anything: it is a label: what it is worth is what the hold of that sum in a sandbox is worth. -/
noncomputable def Try.pinned : Pinned := { name := "ytclfambjkolckaa", sum := "169d85b0f619f8671ac5ec38554ca10f3cbf0bd02cf1144cf23ad1fc785a3b25", checked := Try.checked }
namespace Rows
def none {H : Type} : Left H := { results := [], args := [] }

/-- 'flashlocklaw30.CreditPlays': WHATEVER THE INPUT: true; the input reads as it did. -/
def creditPlaysSpec : ChangeSpec := { name := "creditPlays", fn := fun _ => fun
  | [d] => { results := [.lit (.bool true)], args := [d] }
  | _ => none }
def creditPlaysRow : OpenClaim := { program := "ytclfambjkolckaa", sum := "169d85b0f619f8671ac5ec38554ca10f3cbf0bd02cf1144cf23ad1fc785a3b25", func := "flashlock/flashlocklaw30.CreditPlays", spec := "creditPlays", inPlace := ["maps.clone"], unfollowed := true, recurses := true, apart := false }
def CreditPlaysSaid : Prop := creditPlaysRow.holds Try.pinned (OpenSpec.ofChange creditPlaysSpec)

/-- ITS FALSE NEIGHBOUR: 'it returns false'. Refute it at one input. -/
def creditPlaysWrong : ChangeSpec := { name := "creditPlays", fn := fun _ => fun
  | [d] => { results := [.lit (.bool false)], args := [d] }
  | _ => none }
def CreditPlaysWrongFalsely : Prop := creditPlaysRow.holds Try.pinned (OpenSpec.ofChange creditPlaysWrong)

/-- 'flashlocklaw30.CreditAgain': WHATEVER THE INPUT: true; the input reads as it did. -/
def creditAgainSpec : ChangeSpec := { name := "creditAgain", fn := fun _ => fun
  | [d1, d2] => { results := [.lit (.bool true)], args := [d1, d2] }
  | _ => none }
def creditAgainRow : OpenClaim := { program := "ytclfambjkolckaa", sum := "169d85b0f619f8671ac5ec38554ca10f3cbf0bd02cf1144cf23ad1fc785a3b25", func := "flashlock/flashlocklaw30.CreditAgain", spec := "creditAgain", inPlace := ["maps.clone"], unfollowed := true, recurses := true, apart := false }
def CreditAgainSaid : Prop := creditAgainRow.holds Try.pinned (OpenSpec.ofChange creditAgainSpec)

/-- ITS FALSE NEIGHBOUR: 'it returns false'. Refute it at one input. -/
def creditAgainWrong : ChangeSpec := { name := "creditAgain", fn := fun _ => fun
  | [d1, d2] => { results := [.lit (.bool false)], args := [d1, d2] }
  | _ => none }
def CreditAgainWrongFalsely : Prop := creditAgainRow.holds Try.pinned (OpenSpec.ofChange creditAgainWrong)

/-- 'flashlocklaw29.RingPlays': WHATEVER THE INPUT: true; the input reads as it did. -/
def ringPlaysSpec : ChangeSpec := { name := "ringPlays", fn := fun _ => fun
  | [d1, d2] => { results := [.lit (.bool true)], args := [d1, d2] }
  | _ => none }
def ringPlaysRow : OpenClaim := { program := "ytclfambjkolckaa", sum := "169d85b0f619f8671ac5ec38554ca10f3cbf0bd02cf1144cf23ad1fc785a3b25", func := "flashlock/flashlocklaw29.RingPlays", spec := "ringPlays", unfollowed := true, recurses := true, apart := false }
def RingPlaysSaid : Prop := ringPlaysRow.holds Try.pinned (OpenSpec.ofChange ringPlaysSpec)

/-- ITS FALSE NEIGHBOUR: 'it returns false'. Refute it at one input. -/
def ringPlaysWrong : ChangeSpec := { name := "ringPlays", fn := fun _ => fun
  | [d1, d2] => { results := [.lit (.bool false)], args := [d1, d2] }
  | _ => none }
def RingPlaysWrongFalsely : Prop := ringPlaysRow.holds Try.pinned (OpenSpec.ofChange ringPlaysWrong)

/-- 'flashlocklaw29.RingTurns': WHATEVER THE INPUT: true; the input reads as it did. -/
def ringTurnsSpec : ChangeSpec := { name := "ringTurns", fn := fun _ => fun
  | [d] => { results := [.lit (.bool true)], args := [d] }
  | _ => none }
def ringTurnsRow : OpenClaim := { program := "ytclfambjkolckaa", sum := "169d85b0f619f8671ac5ec38554ca10f3cbf0bd02cf1144cf23ad1fc785a3b25", func := "flashlock/flashlocklaw29.RingTurns", spec := "ringTurns", unfollowed := true, recurses := true, apart := false }
def RingTurnsSaid : Prop := ringTurnsRow.holds Try.pinned (OpenSpec.ofChange ringTurnsSpec)

/-- ITS FALSE NEIGHBOUR: 'it returns false'. Refute it at one input. -/
def ringTurnsWrong : ChangeSpec := { name := "ringTurns", fn := fun _ => fun
  | [d] => { results := [.lit (.bool false)], args := [d] }
  | _ => none }
def RingTurnsWrongFalsely : Prop := ringTurnsRow.holds Try.pinned (OpenSpec.ofChange ringTurnsWrong)

/-- 'flashlocklaw04.RateTells': WHATEVER THE INPUT: true; the input reads as it did. -/
def rateTellsSpec : ChangeSpec := { name := "rateTells", fn := fun _ => fun
  | [d1, d2, d3] => { results := [.lit (.bool true)], args := [d1, d2, d3] }
  | _ => none }
def rateTellsRow : OpenClaim := { program := "ytclfambjkolckaa", sum := "169d85b0f619f8671ac5ec38554ca10f3cbf0bd02cf1144cf23ad1fc785a3b25", func := "flashlock/flashlocklaw04.RateTells", spec := "rateTells", recurses := true, apart := false }
def RateTellsSaid : Prop := rateTellsRow.holds Try.pinned (OpenSpec.ofChange rateTellsSpec)

/-- ITS FALSE NEIGHBOUR: 'it returns false'. Refute it at one input. -/
def rateTellsWrong : ChangeSpec := { name := "rateTells", fn := fun _ => fun
  | [d1, d2, d3] => { results := [.lit (.bool false)], args := [d1, d2, d3] }
  | _ => none }
def RateTellsWrongFalsely : Prop := rateTellsRow.holds Try.pinned (OpenSpec.ofChange rateTellsWrong)

/-- 'flashlocklaw04.RateGrows': WHATEVER THE INPUT: true; the input reads as it did. -/
def rateGrowsSpec : ChangeSpec := { name := "rateGrows", fn := fun _ => fun
  | [d1, d2, d3] => { results := [.lit (.bool true)], args := [d1, d2, d3] }
  | _ => none }
def rateGrowsRow : OpenClaim := { program := "ytclfambjkolckaa", sum := "169d85b0f619f8671ac5ec38554ca10f3cbf0bd02cf1144cf23ad1fc785a3b25", func := "flashlock/flashlocklaw04.RateGrows", spec := "rateGrows", apart := false }
def RateGrowsSaid : Prop := rateGrowsRow.holds Try.pinned (OpenSpec.ofChange rateGrowsSpec)

/-- ITS FALSE NEIGHBOUR: 'it returns false'. Refute it at one input. -/
def rateGrowsWrong : ChangeSpec := { name := "rateGrows", fn := fun _ => fun
  | [d1, d2, d3] => { results := [.lit (.bool false)], args := [d1, d2, d3] }
  | _ => none }
def RateGrowsWrongFalsely : Prop := rateGrowsRow.holds Try.pinned (OpenSpec.ofChange rateGrowsWrong)

/-- 'flashlocklaw31.WrrServes': WHATEVER THE INPUT: true; the input reads as it did. -/
def wrrServesSpec : ChangeSpec := { name := "wrrServes", fn := fun _ => fun
  | [d1, d2, d3] => { results := [.lit (.bool true)], args := [d1, d2, d3] }
  | _ => none }
def wrrServesRow : OpenClaim := { program := "ytclfambjkolckaa", sum := "169d85b0f619f8671ac5ec38554ca10f3cbf0bd02cf1144cf23ad1fc785a3b25", func := "flashlock/flashlocklaw31.WrrServes", spec := "wrrServes", unfollowed := true, recurses := true, apart := false }
def WrrServesSaid : Prop := wrrServesRow.holds Try.pinned (OpenSpec.ofChange wrrServesSpec)

/-- ITS FALSE NEIGHBOUR: 'it returns false'. Refute it at one input. -/
def wrrServesWrong : ChangeSpec := { name := "wrrServes", fn := fun _ => fun
  | [d1, d2, d3] => { results := [.lit (.bool false)], args := [d1, d2, d3] }
  | _ => none }
def WrrServesWrongFalsely : Prop := wrrServesRow.holds Try.pinned (OpenSpec.ofChange wrrServesWrong)

/-- 'flashlocklaw03.ShareSums': WHATEVER THE INPUT: true; the input reads as it did. -/
def shareSumsSpec : ChangeSpec := { name := "shareSums", fn := fun _ => fun
  | [d] => { results := [.lit (.bool true)], args := [d] }
  | _ => none }
def shareSumsRow : OpenClaim := { program := "ytclfambjkolckaa", sum := "169d85b0f619f8671ac5ec38554ca10f3cbf0bd02cf1144cf23ad1fc785a3b25", func := "flashlock/flashlocklaw03.ShareSums", spec := "shareSums", inPlace := ["math.Float64bits", "math.Float64frombits", "math.RoundToEven"], apart := false }
def ShareSumsSaid : Prop := shareSumsRow.holds Try.pinned (OpenSpec.ofChange shareSumsSpec)

/-- ITS FALSE NEIGHBOUR: 'it returns false'. Refute it at one input. -/
def shareSumsWrong : ChangeSpec := { name := "shareSums", fn := fun _ => fun
  | [d] => { results := [.lit (.bool false)], args := [d] }
  | _ => none }
def ShareSumsWrongFalsely : Prop := shareSumsRow.holds Try.pinned (OpenSpec.ofChange shareSumsWrong)

/-- 'flashlocklaw03.ShareTells': WHATEVER THE INPUT: true; the input reads as it did. -/
def shareTellsSpec : ChangeSpec := { name := "shareTells", fn := fun _ => fun
  | [d1, d2, d3] => { results := [.lit (.bool true)], args := [d1, d2, d3] }
  | _ => none }
def shareTellsRow : OpenClaim := { program := "ytclfambjkolckaa", sum := "169d85b0f619f8671ac5ec38554ca10f3cbf0bd02cf1144cf23ad1fc785a3b25", func := "flashlock/flashlocklaw03.ShareTells", spec := "shareTells", inPlace := ["math.Float64frombits", "math.Float64bits", "math.RoundToEven"], apart := false }
def ShareTellsSaid : Prop := shareTellsRow.holds Try.pinned (OpenSpec.ofChange shareTellsSpec)

/-- ITS FALSE NEIGHBOUR: 'it returns false'. Refute it at one input. -/
def shareTellsWrong : ChangeSpec := { name := "shareTells", fn := fun _ => fun
  | [d1, d2, d3] => { results := [.lit (.bool false)], args := [d1, d2, d3] }
  | _ => none }
def ShareTellsWrongFalsely : Prop := shareTellsRow.holds Try.pinned (OpenSpec.ofChange shareTellsWrong)

/-- 'flashlocklaw03.ShareOrders': WHATEVER THE INPUT: true; the input reads as it did. -/
def shareOrdersSpec : ChangeSpec := { name := "shareOrders", fn := fun _ => fun
  | [d1, d2] => { results := [.lit (.bool true)], args := [d1, d2] }
  | _ => none }
def shareOrdersRow : OpenClaim := { program := "ytclfambjkolckaa", sum := "169d85b0f619f8671ac5ec38554ca10f3cbf0bd02cf1144cf23ad1fc785a3b25", func := "flashlock/flashlocklaw03.ShareOrders", spec := "shareOrders", inPlace := ["math.Float64frombits", "math.Float64bits", "math.RoundToEven"], apart := false }
def ShareOrdersSaid : Prop := shareOrdersRow.holds Try.pinned (OpenSpec.ofChange shareOrdersSpec)

/-- ITS FALSE NEIGHBOUR: 'it returns false'. Refute it at one input. -/
def shareOrdersWrong : ChangeSpec := { name := "shareOrders", fn := fun _ => fun
  | [d1, d2] => { results := [.lit (.bool false)], args := [d1, d2] }
  | _ => none }
def ShareOrdersWrongFalsely : Prop := shareOrdersRow.holds Try.pinned (OpenSpec.ofChange shareOrdersWrong)

/-- 'flashlocklaw25.IdleWaits': WHATEVER THE INPUT: true; the input reads as it did. -/
def idleWaitsSpec : ChangeSpec := { name := "idleWaits", fn := fun _ => fun
  | [d1, d2, d3] => { results := [.lit (.bool true)], args := [d1, d2, d3] }
  | _ => none }
def idleWaitsRow : OpenClaim := { program := "ytclfambjkolckaa", sum := "169d85b0f619f8671ac5ec38554ca10f3cbf0bd02cf1144cf23ad1fc785a3b25", func := "flashlock/flashlocklaw25.IdleWaits", spec := "idleWaits", inPlace := ["math.Float64bits", "math.Float64frombits", "math.RoundToEven"], apart := false }
def IdleWaitsSaid : Prop := idleWaitsRow.holds Try.pinned (OpenSpec.ofChange idleWaitsSpec)

/-- ITS FALSE NEIGHBOUR: 'it returns false'. Refute it at one input. -/
def idleWaitsWrong : ChangeSpec := { name := "idleWaits", fn := fun _ => fun
  | [d1, d2, d3] => { results := [.lit (.bool false)], args := [d1, d2, d3] }
  | _ => none }
def IdleWaitsWrongFalsely : Prop := idleWaitsRow.holds Try.pinned (OpenSpec.ofChange idleWaitsWrong)

/-- 'flashlocklaw25.IdlePaced': WHATEVER THE INPUT: true; the input reads as it did. -/
def idlePacedSpec : ChangeSpec := { name := "idlePaced", fn := fun _ => fun
  | [d1, d2, d3] => { results := [.lit (.bool true)], args := [d1, d2, d3] }
  | _ => none }
def idlePacedRow : OpenClaim := { program := "ytclfambjkolckaa", sum := "169d85b0f619f8671ac5ec38554ca10f3cbf0bd02cf1144cf23ad1fc785a3b25", func := "flashlock/flashlocklaw25.IdlePaced", spec := "idlePaced", inPlace := ["math.Float64bits", "math.Float64frombits", "math.RoundToEven"], apart := false }
def IdlePacedSaid : Prop := idlePacedRow.holds Try.pinned (OpenSpec.ofChange idlePacedSpec)

/-- ITS FALSE NEIGHBOUR: 'it returns false'. Refute it at one input. -/
def idlePacedWrong : ChangeSpec := { name := "idlePaced", fn := fun _ => fun
  | [d1, d2, d3] => { results := [.lit (.bool false)], args := [d1, d2, d3] }
  | _ => none }
def IdlePacedWrongFalsely : Prop := idlePacedRow.holds Try.pinned (OpenSpec.ofChange idlePacedWrong)

/-- 'flashlocklaw25.IdleTells': WHATEVER THE INPUT: true; the input reads as it did. -/
def idleTellsSpec : ChangeSpec := { name := "idleTells", fn := fun _ => fun
  | [d1, d2, d3] => { results := [.lit (.bool true)], args := [d1, d2, d3] }
  | _ => none }
def idleTellsRow : OpenClaim := { program := "ytclfambjkolckaa", sum := "169d85b0f619f8671ac5ec38554ca10f3cbf0bd02cf1144cf23ad1fc785a3b25", func := "flashlock/flashlocklaw25.IdleTells", spec := "idleTells", inPlace := ["math.Float64bits", "math.Float64frombits", "math.RoundToEven"], apart := false }
def IdleTellsSaid : Prop := idleTellsRow.holds Try.pinned (OpenSpec.ofChange idleTellsSpec)

/-- ITS FALSE NEIGHBOUR: 'it returns false'. Refute it at one input. -/
def idleTellsWrong : ChangeSpec := { name := "idleTells", fn := fun _ => fun
  | [d1, d2, d3] => { results := [.lit (.bool false)], args := [d1, d2, d3] }
  | _ => none }
def IdleTellsWrongFalsely : Prop := idleTellsRow.holds Try.pinned (OpenSpec.ofChange idleTellsWrong)

/-- 'flashlocklaw31.WrrPlays': WHATEVER THE INPUT: true; the input reads as it did. -/
def wrrPlaysSpec : ChangeSpec := { name := "wrrPlays", fn := fun _ => fun
  | [d] => { results := [.lit (.bool true)], args := [d] }
  | _ => none }
def wrrPlaysRow : OpenClaim := { program := "ytclfambjkolckaa", sum := "169d85b0f619f8671ac5ec38554ca10f3cbf0bd02cf1144cf23ad1fc785a3b25", func := "flashlock/flashlocklaw31.WrrPlays", spec := "wrrPlays", inPlace := ["maps.clone"], unfollowed := true, recurses := true, apart := false }
def WrrPlaysSaid : Prop := wrrPlaysRow.holds Try.pinned (OpenSpec.ofChange wrrPlaysSpec)

/-- ITS FALSE NEIGHBOUR: 'it returns false'. Refute it at one input. -/
def wrrPlaysWrong : ChangeSpec := { name := "wrrPlays", fn := fun _ => fun
  | [d] => { results := [.lit (.bool false)], args := [d] }
  | _ => none }
def WrrPlaysWrongFalsely : Prop := wrrPlaysRow.holds Try.pinned (OpenSpec.ofChange wrrPlaysWrong)

/-- 'flashlocklaw31.WrrNone': WHATEVER THE INPUT: true; the input reads as it did. -/
def wrrNoneSpec : ChangeSpec := { name := "wrrNone", fn := fun _ => fun
  | [d1, d2, d3] => { results := [.lit (.bool true)], args := [d1, d2, d3] }
  | _ => none }
def wrrNoneRow : OpenClaim := { program := "ytclfambjkolckaa", sum := "169d85b0f619f8671ac5ec38554ca10f3cbf0bd02cf1144cf23ad1fc785a3b25", func := "flashlock/flashlocklaw31.WrrNone", spec := "wrrNone", inPlace := ["maps.clone"], unfollowed := true, recurses := true, apart := false }
def WrrNoneSaid : Prop := wrrNoneRow.holds Try.pinned (OpenSpec.ofChange wrrNoneSpec)

/-- ITS FALSE NEIGHBOUR: 'it returns false'. Refute it at one input. -/
def wrrNoneWrong : ChangeSpec := { name := "wrrNone", fn := fun _ => fun
  | [d1, d2, d3] => { results := [.lit (.bool false)], args := [d1, d2, d3] }
  | _ => none }
def WrrNoneWrongFalsely : Prop := wrrNoneRow.holds Try.pinned (OpenSpec.ofChange wrrNoneWrong)

/- THE SECOND FORM. 'bulk': how many values and letters a reading holds, each counted each time it is reached (what is shared counts as often as it is met; a slice's spare places count too). A statement '..UptoSaid' is the law's where the arguments, and the package variables that the reading takes, are together of bulk at most 1048576: NARROWER than '..Said'. Prove '..Said' where nothing that the law and all that it calls make is longer than what came in: it says more and counts as full. Else prove '..UptoSaid'. A law counts once. -/
mutual
def uptoBulk {H : Type} : DataW H → Nat
  | .lit (.string bytes) => bytes.length + 1
  | .lit _ => 1
  | .nil => 1
  | .ptr d => uptoBulk d + 1
  | .slice elems spare => uptoBulkAll elems + uptoBulkAll spare + 1
  | .agg parts => uptoBulkAll parts + 1
  | .iface _ d => uptoBulk d + 1
  | .map entries => uptoBulkEntries entries + 1
  | .held _ => 1
def uptoBulkAll {H : Type} : List (DataW H) → Nat
  | [] => 0
  | d :: r => uptoBulk d + uptoBulkAll r
def uptoBulkEntries {H : Type} : List (Lit × DataW H) → Nat
  | [] => 0
  | x :: r => uptoBulkEntry x + uptoBulkEntries r
def uptoBulkEntry {H : Type} : Lit × DataW H → Nat
  | (.string bytes, d) => bytes.length + uptoBulk d + 1
  | (_, d) => uptoBulk d + 1
 end
def uptoSmall : (H : Type) → List (DataW H) → Bool := fun _ ds => decide (uptoBulkAll ds ≤ 1048576)
def OpenSpec.upto (s : _root_.Go.ChangeSpec) : _root_.Go.OpenSpec := { _root_.Go.OpenSpec.ofChange s with cond := some uptoSmall }

/-- 'flashlocklaw30.CreditPlays', WHERE WHAT IT READS IS OF BULK AT MOST 1048576: true; the input reads as it did. -/
def creditPlaysUptoRow : OpenClaim := { program := "ytclfambjkolckaa", sum := "169d85b0f619f8671ac5ec38554ca10f3cbf0bd02cf1144cf23ad1fc785a3b25", func := "flashlock/flashlocklaw30.CreditPlays", spec := "creditPlays", inPlace := ["maps.clone"], unfollowed := true, recurses := true, apart := false, narrowed := true }
def CreditPlaysUptoSaid : Prop := creditPlaysUptoRow.holds Try.pinned (OpenSpec.upto creditPlaysSpec)

/-- 'flashlocklaw30.CreditAgain', WHERE WHAT IT READS IS OF BULK AT MOST 1048576: true; the input reads as it did. -/
def creditAgainUptoRow : OpenClaim := { program := "ytclfambjkolckaa", sum := "169d85b0f619f8671ac5ec38554ca10f3cbf0bd02cf1144cf23ad1fc785a3b25", func := "flashlock/flashlocklaw30.CreditAgain", spec := "creditAgain", inPlace := ["maps.clone"], unfollowed := true, recurses := true, apart := false, narrowed := true }
def CreditAgainUptoSaid : Prop := creditAgainUptoRow.holds Try.pinned (OpenSpec.upto creditAgainSpec)

/-- 'flashlocklaw29.RingPlays', WHERE WHAT IT READS IS OF BULK AT MOST 1048576: true; the input reads as it did. -/
def ringPlaysUptoRow : OpenClaim := { program := "ytclfambjkolckaa", sum := "169d85b0f619f8671ac5ec38554ca10f3cbf0bd02cf1144cf23ad1fc785a3b25", func := "flashlock/flashlocklaw29.RingPlays", spec := "ringPlays", unfollowed := true, recurses := true, apart := false, narrowed := true }
def RingPlaysUptoSaid : Prop := ringPlaysUptoRow.holds Try.pinned (OpenSpec.upto ringPlaysSpec)

/-- 'flashlocklaw29.RingTurns', WHERE WHAT IT READS IS OF BULK AT MOST 1048576: true; the input reads as it did. -/
def ringTurnsUptoRow : OpenClaim := { program := "ytclfambjkolckaa", sum := "169d85b0f619f8671ac5ec38554ca10f3cbf0bd02cf1144cf23ad1fc785a3b25", func := "flashlock/flashlocklaw29.RingTurns", spec := "ringTurns", unfollowed := true, recurses := true, apart := false, narrowed := true }
def RingTurnsUptoSaid : Prop := ringTurnsUptoRow.holds Try.pinned (OpenSpec.upto ringTurnsSpec)

/-- 'flashlocklaw04.RateTells', WHERE WHAT IT READS IS OF BULK AT MOST 1048576: true; the input reads as it did. -/
def rateTellsUptoRow : OpenClaim := { program := "ytclfambjkolckaa", sum := "169d85b0f619f8671ac5ec38554ca10f3cbf0bd02cf1144cf23ad1fc785a3b25", func := "flashlock/flashlocklaw04.RateTells", spec := "rateTells", recurses := true, apart := false, narrowed := true }
def RateTellsUptoSaid : Prop := rateTellsUptoRow.holds Try.pinned (OpenSpec.upto rateTellsSpec)

/-- 'flashlocklaw04.RateGrows', WHERE WHAT IT READS IS OF BULK AT MOST 1048576: true; the input reads as it did. -/
def rateGrowsUptoRow : OpenClaim := { program := "ytclfambjkolckaa", sum := "169d85b0f619f8671ac5ec38554ca10f3cbf0bd02cf1144cf23ad1fc785a3b25", func := "flashlock/flashlocklaw04.RateGrows", spec := "rateGrows", apart := false, narrowed := true }
def RateGrowsUptoSaid : Prop := rateGrowsUptoRow.holds Try.pinned (OpenSpec.upto rateGrowsSpec)

/-- 'flashlocklaw31.WrrServes', WHERE WHAT IT READS IS OF BULK AT MOST 1048576: true; the input reads as it did. -/
def wrrServesUptoRow : OpenClaim := { program := "ytclfambjkolckaa", sum := "169d85b0f619f8671ac5ec38554ca10f3cbf0bd02cf1144cf23ad1fc785a3b25", func := "flashlock/flashlocklaw31.WrrServes", spec := "wrrServes", unfollowed := true, recurses := true, apart := false, narrowed := true }
def WrrServesUptoSaid : Prop := wrrServesUptoRow.holds Try.pinned (OpenSpec.upto wrrServesSpec)

/-- 'flashlocklaw03.ShareSums', WHERE WHAT IT READS IS OF BULK AT MOST 1048576: true; the input reads as it did. -/
def shareSumsUptoRow : OpenClaim := { program := "ytclfambjkolckaa", sum := "169d85b0f619f8671ac5ec38554ca10f3cbf0bd02cf1144cf23ad1fc785a3b25", func := "flashlock/flashlocklaw03.ShareSums", spec := "shareSums", inPlace := ["math.Float64bits", "math.Float64frombits", "math.RoundToEven"], apart := false, narrowed := true }
def ShareSumsUptoSaid : Prop := shareSumsUptoRow.holds Try.pinned (OpenSpec.upto shareSumsSpec)

/-- 'flashlocklaw03.ShareTells', WHERE WHAT IT READS IS OF BULK AT MOST 1048576: true; the input reads as it did. -/
def shareTellsUptoRow : OpenClaim := { program := "ytclfambjkolckaa", sum := "169d85b0f619f8671ac5ec38554ca10f3cbf0bd02cf1144cf23ad1fc785a3b25", func := "flashlock/flashlocklaw03.ShareTells", spec := "shareTells", inPlace := ["math.Float64frombits", "math.Float64bits", "math.RoundToEven"], apart := false, narrowed := true }
def ShareTellsUptoSaid : Prop := shareTellsUptoRow.holds Try.pinned (OpenSpec.upto shareTellsSpec)

/-- 'flashlocklaw03.ShareOrders', WHERE WHAT IT READS IS OF BULK AT MOST 1048576: true; the input reads as it did. -/
def shareOrdersUptoRow : OpenClaim := { program := "ytclfambjkolckaa", sum := "169d85b0f619f8671ac5ec38554ca10f3cbf0bd02cf1144cf23ad1fc785a3b25", func := "flashlock/flashlocklaw03.ShareOrders", spec := "shareOrders", inPlace := ["math.Float64frombits", "math.Float64bits", "math.RoundToEven"], apart := false, narrowed := true }
def ShareOrdersUptoSaid : Prop := shareOrdersUptoRow.holds Try.pinned (OpenSpec.upto shareOrdersSpec)

/-- 'flashlocklaw25.IdleWaits', WHERE WHAT IT READS IS OF BULK AT MOST 1048576: true; the input reads as it did. -/
def idleWaitsUptoRow : OpenClaim := { program := "ytclfambjkolckaa", sum := "169d85b0f619f8671ac5ec38554ca10f3cbf0bd02cf1144cf23ad1fc785a3b25", func := "flashlock/flashlocklaw25.IdleWaits", spec := "idleWaits", inPlace := ["math.Float64bits", "math.Float64frombits", "math.RoundToEven"], apart := false, narrowed := true }
def IdleWaitsUptoSaid : Prop := idleWaitsUptoRow.holds Try.pinned (OpenSpec.upto idleWaitsSpec)

/-- 'flashlocklaw25.IdlePaced', WHERE WHAT IT READS IS OF BULK AT MOST 1048576: true; the input reads as it did. -/
def idlePacedUptoRow : OpenClaim := { program := "ytclfambjkolckaa", sum := "169d85b0f619f8671ac5ec38554ca10f3cbf0bd02cf1144cf23ad1fc785a3b25", func := "flashlock/flashlocklaw25.IdlePaced", spec := "idlePaced", inPlace := ["math.Float64bits", "math.Float64frombits", "math.RoundToEven"], apart := false, narrowed := true }
def IdlePacedUptoSaid : Prop := idlePacedUptoRow.holds Try.pinned (OpenSpec.upto idlePacedSpec)

/-- 'flashlocklaw25.IdleTells', WHERE WHAT IT READS IS OF BULK AT MOST 1048576: true; the input reads as it did. -/
def idleTellsUptoRow : OpenClaim := { program := "ytclfambjkolckaa", sum := "169d85b0f619f8671ac5ec38554ca10f3cbf0bd02cf1144cf23ad1fc785a3b25", func := "flashlock/flashlocklaw25.IdleTells", spec := "idleTells", inPlace := ["math.Float64bits", "math.Float64frombits", "math.RoundToEven"], apart := false, narrowed := true }
def IdleTellsUptoSaid : Prop := idleTellsUptoRow.holds Try.pinned (OpenSpec.upto idleTellsSpec)

/-- 'flashlocklaw31.WrrPlays', WHERE WHAT IT READS IS OF BULK AT MOST 1048576: true; the input reads as it did. -/
def wrrPlaysUptoRow : OpenClaim := { program := "ytclfambjkolckaa", sum := "169d85b0f619f8671ac5ec38554ca10f3cbf0bd02cf1144cf23ad1fc785a3b25", func := "flashlock/flashlocklaw31.WrrPlays", spec := "wrrPlays", inPlace := ["maps.clone"], unfollowed := true, recurses := true, apart := false, narrowed := true }
def WrrPlaysUptoSaid : Prop := wrrPlaysUptoRow.holds Try.pinned (OpenSpec.upto wrrPlaysSpec)

/-- 'flashlocklaw31.WrrNone', WHERE WHAT IT READS IS OF BULK AT MOST 1048576: true; the input reads as it did. -/
def wrrNoneUptoRow : OpenClaim := { program := "ytclfambjkolckaa", sum := "169d85b0f619f8671ac5ec38554ca10f3cbf0bd02cf1144cf23ad1fc785a3b25", func := "flashlock/flashlocklaw31.WrrNone", spec := "wrrNone", inPlace := ["maps.clone"], unfollowed := true, recurses := true, apart := false, narrowed := true }
def WrrNoneUptoSaid : Prop := wrrNoneUptoRow.holds Try.pinned (OpenSpec.upto wrrNoneSpec)

end Rows
end Go.Proofs.Ytclfambjkolckaa
