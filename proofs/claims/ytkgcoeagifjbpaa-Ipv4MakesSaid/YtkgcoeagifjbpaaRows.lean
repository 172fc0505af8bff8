/-
  No cell of these rows narrows 'for every input' (looked for: loops, veiled, ifaces, maps, wideKeys, modest, calm, conditions, laid).
  DERIVED. THE GIVEN ROWS OF THIS SEAT. 10 by the template 'for every input the law returns true; each argument reads behind the call as it read before'; 0 by the template 'total and deterministic' (their statements: YtkgcoeagifjbpaaTotals.lean).
  GIVEN WITH THE SEED: the statements are not yours to turn. If you find one false, say at which input.
  Laid BY PROGRAM, IN A SANDBOX (cutbox-rows.mjs): the forced cells as the released guide's own fill.sh prints them over the translation 51e130ac38df21e5… (all of the seat's roots in one cut). By AI agents, Wed Nov 11 2026. No macro, syntax, notation, axiom, sorry.
-/
import Derived.Test.YtkgcoeagifjbpaaChecked
import GoSem.Claim
import GoSem.ClaimJoined
import GoSem.ClaimMapViews
import Derived.JoinedTies
import Derived.KernelRfl
namespace Go.Proofs.Ytkgcoeagifjbpaa
/- THE CELL 'sum', in the pinned program and in every row, IS THE sha256 OF THE DUMP (.gsa) THAT YtkgcoeagifjbpaaProg.lean LOADS. Nothing in Lean hashes anything: it is a label: what it is worth is what the hold of that sum in a sandbox is worth. -/
noncomputable def Try.pinned : Pinned := { name := "ytkgcoeagifjbpaa", sum := "51e130ac38df21e57a24a3bcb1d9940a2be18422427a80b08f982442d884975a", checked := Try.checked }
namespace Rows
def none {H : Type} : Left H := { results := [], args := [] }

/-- 'flashlocklaw39.ReplyPuts': WHATEVER THE INPUT: true; the input reads as it did. -/
def replyPutsSpec : ChangeSpec := { name := "replyPuts", fn := fun _ => fun
  | [d] => { results := [.lit (.bool true)], args := [d] }
  | _ => none }
def replyPutsRow : OpenClaim := { program := "ytkgcoeagifjbpaa", sum := "51e130ac38df21e57a24a3bcb1d9940a2be18422427a80b08f982442d884975a", func := "flashlock/flashlocklaw39.ReplyPuts", spec := "replyPuts", recurses := true, apart := false }
def ReplyPutsSaid : Prop := replyPutsRow.holds Try.pinned (OpenSpec.ofChange replyPutsSpec)

/-- ITS FALSE NEIGHBOUR: 'it returns false'. Refute it at one input. -/
def replyPutsWrong : ChangeSpec := { name := "replyPuts", fn := fun _ => fun
  | [d] => { results := [.lit (.bool false)], args := [d] }
  | _ => none }
def ReplyPutsWrongFalsely : Prop := replyPutsRow.holds Try.pinned (OpenSpec.ofChange replyPutsWrong)

/-- 'flashlocklaw02.EwmaAway': WHATEVER THE INPUT: true; the input reads as it did. -/
def ewmaAwaySpec : ChangeSpec := { name := "ewmaAway", fn := fun _ => fun
  | [d1, d2] => { results := [.lit (.bool true)], args := [d1, d2] }
  | _ => none }
def ewmaAwayRow : OpenClaim := { program := "ytkgcoeagifjbpaa", sum := "51e130ac38df21e57a24a3bcb1d9940a2be18422427a80b08f982442d884975a", func := "flashlock/flashlocklaw02.EwmaAway", spec := "ewmaAway", apart := false }
def EwmaAwaySaid : Prop := ewmaAwayRow.holds Try.pinned (OpenSpec.ofChange ewmaAwaySpec)

/-- ITS FALSE NEIGHBOUR: 'it returns false'. Refute it at one input. -/
def ewmaAwayWrong : ChangeSpec := { name := "ewmaAway", fn := fun _ => fun
  | [d1, d2] => { results := [.lit (.bool false)], args := [d1, d2] }
  | _ => none }
def EwmaAwayWrongFalsely : Prop := ewmaAwayRow.holds Try.pinned (OpenSpec.ofChange ewmaAwayWrong)

/-- 'flashlocklaw11.Ipv4Makes': WHATEVER THE INPUT: true; the input reads as it did. -/
def ipv4MakesSpec : ChangeSpec := { name := "ipv4Makes", fn := fun _ => fun
  | [d1, d2] => { results := [.lit (.bool true)], args := [d1, d2] }
  | _ => none }
def ipv4MakesRow : OpenClaim := { program := "ytkgcoeagifjbpaa", sum := "51e130ac38df21e57a24a3bcb1d9940a2be18422427a80b08f982442d884975a", func := "flashlock/flashlocklaw11.Ipv4Makes", spec := "ipv4Makes", recurses := true, apart := false }
def Ipv4MakesSaid : Prop := ipv4MakesRow.holds Try.pinned (OpenSpec.ofChange ipv4MakesSpec)

/-- ITS FALSE NEIGHBOUR: 'it returns false'. Refute it at one input. -/
def ipv4MakesWrong : ChangeSpec := { name := "ipv4Makes", fn := fun _ => fun
  | [d1, d2] => { results := [.lit (.bool false)], args := [d1, d2] }
  | _ => none }
def Ipv4MakesWrongFalsely : Prop := ipv4MakesRow.holds Try.pinned (OpenSpec.ofChange ipv4MakesWrong)

/-- 'flashlocklaw02.EwmaStays': WHATEVER THE INPUT: true; the input reads as it did. -/
def ewmaStaysSpec : ChangeSpec := { name := "ewmaStays", fn := fun _ => fun
  | [d1, d2, d3] => { results := [.lit (.bool true)], args := [d1, d2, d3] }
  | _ => none }
def ewmaStaysRow : OpenClaim := { program := "ytkgcoeagifjbpaa", sum := "51e130ac38df21e57a24a3bcb1d9940a2be18422427a80b08f982442d884975a", func := "flashlock/flashlocklaw02.EwmaStays", spec := "ewmaStays", apart := false }
def EwmaStaysSaid : Prop := ewmaStaysRow.holds Try.pinned (OpenSpec.ofChange ewmaStaysSpec)

/-- ITS FALSE NEIGHBOUR: 'it returns false'. Refute it at one input. -/
def ewmaStaysWrong : ChangeSpec := { name := "ewmaStays", fn := fun _ => fun
  | [d1, d2, d3] => { results := [.lit (.bool false)], args := [d1, d2, d3] }
  | _ => none }
def EwmaStaysWrongFalsely : Prop := ewmaStaysRow.holds Try.pinned (OpenSpec.ofChange ewmaStaysWrong)

/-- 'flashlocklaw02.EwmaTells': WHATEVER THE INPUT: true; the input reads as it did. -/
def ewmaTellsSpec : ChangeSpec := { name := "ewmaTells", fn := fun _ => fun
  | [d1, d2] => { results := [.lit (.bool true)], args := [d1, d2] }
  | _ => none }
def ewmaTellsRow : OpenClaim := { program := "ytkgcoeagifjbpaa", sum := "51e130ac38df21e57a24a3bcb1d9940a2be18422427a80b08f982442d884975a", func := "flashlock/flashlocklaw02.EwmaTells", spec := "ewmaTells", apart := false }
def EwmaTellsSaid : Prop := ewmaTellsRow.holds Try.pinned (OpenSpec.ofChange ewmaTellsSpec)

/-- ITS FALSE NEIGHBOUR: 'it returns false'. Refute it at one input. -/
def ewmaTellsWrong : ChangeSpec := { name := "ewmaTells", fn := fun _ => fun
  | [d1, d2] => { results := [.lit (.bool false)], args := [d1, d2] }
  | _ => none }
def EwmaTellsWrongFalsely : Prop := ewmaTellsRow.holds Try.pinned (OpenSpec.ofChange ewmaTellsWrong)

/-- 'flashlocklaw05.VclockPlays': WHATEVER THE INPUT: true; the input reads as it did. -/
def vclockPlaysSpec : ChangeSpec := { name := "vclockPlays", fn := fun _ => fun
  | [d1, d2, d3] => { results := [.lit (.bool true)], args := [d1, d2, d3] }
  | _ => none }
def vclockPlaysRow : OpenClaim := { program := "ytkgcoeagifjbpaa", sum := "51e130ac38df21e57a24a3bcb1d9940a2be18422427a80b08f982442d884975a", func := "flashlock/flashlocklaw05.VclockPlays", spec := "vclockPlays", apart := false }
def VclockPlaysSaid : Prop := vclockPlaysRow.holds Try.pinned (OpenSpec.ofChange vclockPlaysSpec)

/-- ITS FALSE NEIGHBOUR: 'it returns false'. Refute it at one input. -/
def vclockPlaysWrong : ChangeSpec := { name := "vclockPlays", fn := fun _ => fun
  | [d1, d2, d3] => { results := [.lit (.bool false)], args := [d1, d2, d3] }
  | _ => none }
def VclockPlaysWrongFalsely : Prop := vclockPlaysRow.holds Try.pinned (OpenSpec.ofChange vclockPlaysWrong)

/-- 'flashlocklaw05.VclockParts': WHATEVER THE INPUT: true; the input reads as it did. -/
def vclockPartsSpec : ChangeSpec := { name := "vclockParts", fn := fun _ => fun
  | [d1, d2] => { results := [.lit (.bool true)], args := [d1, d2] }
  | _ => none }
def vclockPartsRow : OpenClaim := { program := "ytkgcoeagifjbpaa", sum := "51e130ac38df21e57a24a3bcb1d9940a2be18422427a80b08f982442d884975a", func := "flashlock/flashlocklaw05.VclockParts", spec := "vclockParts", apart := false }
def VclockPartsSaid : Prop := vclockPartsRow.holds Try.pinned (OpenSpec.ofChange vclockPartsSpec)

/-- ITS FALSE NEIGHBOUR: 'it returns false'. Refute it at one input. -/
def vclockPartsWrong : ChangeSpec := { name := "vclockParts", fn := fun _ => fun
  | [d1, d2] => { results := [.lit (.bool false)], args := [d1, d2] }
  | _ => none }
def VclockPartsWrongFalsely : Prop := vclockPartsRow.holds Try.pinned (OpenSpec.ofChange vclockPartsWrong)

/-- 'flashlocklaw01.SatParts': WHATEVER THE INPUT: true; the input reads as it did. -/
def satPartsSpec : ChangeSpec := { name := "satParts", fn := fun _ => fun
  | [d1, d2, d3] => { results := [.lit (.bool true)], args := [d1, d2, d3] }
  | _ => none }
def satPartsRow : OpenClaim := { program := "ytkgcoeagifjbpaa", sum := "51e130ac38df21e57a24a3bcb1d9940a2be18422427a80b08f982442d884975a", func := "flashlock/flashlocklaw01.SatParts", spec := "satParts", recurses := true, apart := false }
def SatPartsSaid : Prop := satPartsRow.holds Try.pinned (OpenSpec.ofChange satPartsSpec)

/-- ITS FALSE NEIGHBOUR: 'it returns false'. Refute it at one input. -/
def satPartsWrong : ChangeSpec := { name := "satParts", fn := fun _ => fun
  | [d1, d2, d3] => { results := [.lit (.bool false)], args := [d1, d2, d3] }
  | _ => none }
def SatPartsWrongFalsely : Prop := satPartsRow.holds Try.pinned (OpenSpec.ofChange satPartsWrong)

/-- 'flashlocklaw01.SatKeeps': WHATEVER THE INPUT: true; the input reads as it did. -/
def satKeepsSpec : ChangeSpec := { name := "satKeeps", fn := fun _ => fun
  | [d1, d2, d3] => { results := [.lit (.bool true)], args := [d1, d2, d3] }
  | _ => none }
def satKeepsRow : OpenClaim := { program := "ytkgcoeagifjbpaa", sum := "51e130ac38df21e57a24a3bcb1d9940a2be18422427a80b08f982442d884975a", func := "flashlock/flashlocklaw01.SatKeeps", spec := "satKeeps", apart := false }
def SatKeepsSaid : Prop := satKeepsRow.holds Try.pinned (OpenSpec.ofChange satKeepsSpec)

/-- ITS FALSE NEIGHBOUR: 'it returns false'. Refute it at one input. -/
def satKeepsWrong : ChangeSpec := { name := "satKeeps", fn := fun _ => fun
  | [d1, d2, d3] => { results := [.lit (.bool false)], args := [d1, d2, d3] }
  | _ => none }
def SatKeepsWrongFalsely : Prop := satKeepsRow.holds Try.pinned (OpenSpec.ofChange satKeepsWrong)

/-- 'flashlocklaw01.SatTells': WHATEVER THE INPUT: true; the input reads as it did. -/
def satTellsSpec : ChangeSpec := { name := "satTells", fn := fun _ => fun
  | [d1, d2] => { results := [.lit (.bool true)], args := [d1, d2] }
  | _ => none }
def satTellsRow : OpenClaim := { program := "ytkgcoeagifjbpaa", sum := "51e130ac38df21e57a24a3bcb1d9940a2be18422427a80b08f982442d884975a", func := "flashlock/flashlocklaw01.SatTells", spec := "satTells", recurses := true, apart := false }
def SatTellsSaid : Prop := satTellsRow.holds Try.pinned (OpenSpec.ofChange satTellsSpec)

/-- ITS FALSE NEIGHBOUR: 'it returns false'. Refute it at one input. -/
def satTellsWrong : ChangeSpec := { name := "satTells", fn := fun _ => fun
  | [d1, d2] => { results := [.lit (.bool false)], args := [d1, d2] }
  | _ => none }
def SatTellsWrongFalsely : Prop := satTellsRow.holds Try.pinned (OpenSpec.ofChange satTellsWrong)

/- THE SECOND FORM. 'bulk': how many values and letters a reading holds, each counted each time it is reached (what is shared counts as often as it is met; a slice's spare places count too). A statement '..UptoSaid' is the law's where the arguments, and the package variables that the reading takes, are together of bulk at most 1048576: NARROWER than '..Said'. Prove '..Said' where nothing that the law and all that it calls make is longer than what came in: it says more and counts as full. Else prove '..UptoSaid'. A law counts once. -/
mutual
def uptoBulk {H : Type} : DataW H → Nat
  | .lit (.string bytes) => bytes.length + 1
  | .lit _ => 1
  | .nil => 1
  | .ptr d => uptoBulk d + 1
  | .slice elems spare => uptoBulkAll elems + uptoBulkAll spare + 1
  | .agg parts => uptoBulkAll parts + 1
  | .iface _ d => uptoBulk d + 1
  | .map entries => uptoBulkEntries entries + 1
  | .held _ => 1
def uptoBulkAll {H : Type} : List (DataW H) → Nat
  | [] => 0
  | d :: r => uptoBulk d + uptoBulkAll r
def uptoBulkEntries {H : Type} : List (Lit × DataW H) → Nat
  | [] => 0
  | x :: r => uptoBulkEntry x + uptoBulkEntries r
def uptoBulkEntry {H : Type} : Lit × DataW H → Nat
  | (.string bytes, d) => bytes.length + uptoBulk d + 1
  | (_, d) => uptoBulk d + 1
 end
def uptoSmall : (H : Type) → List (DataW H) → Bool := fun _ ds => decide (uptoBulkAll ds ≤ 1048576)
def OpenSpec.upto (s : _root_.Go.ChangeSpec) : _root_.Go.OpenSpec := { _root_.Go.OpenSpec.ofChange s with cond := some uptoSmall }

/-- 'flashlocklaw39.ReplyPuts', WHERE WHAT IT READS IS OF BULK AT MOST 1048576: true; the input reads as it did. -/
def replyPutsUptoRow : OpenClaim := { program := "ytkgcoeagifjbpaa", sum := "51e130ac38df21e57a24a3bcb1d9940a2be18422427a80b08f982442d884975a", func := "flashlock/flashlocklaw39.ReplyPuts", spec := "replyPuts", recurses := true, apart := false, narrowed := true }
def ReplyPutsUptoSaid : Prop := replyPutsUptoRow.holds Try.pinned (OpenSpec.upto replyPutsSpec)

/-- 'flashlocklaw02.EwmaAway', WHERE WHAT IT READS IS OF BULK AT MOST 1048576: true; the input reads as it did. -/
def ewmaAwayUptoRow : OpenClaim := { program := "ytkgcoeagifjbpaa", sum := "51e130ac38df21e57a24a3bcb1d9940a2be18422427a80b08f982442d884975a", func := "flashlock/flashlocklaw02.EwmaAway", spec := "ewmaAway", apart := false, narrowed := true }
def EwmaAwayUptoSaid : Prop := ewmaAwayUptoRow.holds Try.pinned (OpenSpec.upto ewmaAwaySpec)

/-- 'flashlocklaw11.Ipv4Makes', WHERE WHAT IT READS IS OF BULK AT MOST 1048576: true; the input reads as it did. -/
def ipv4MakesUptoRow : OpenClaim := { program := "ytkgcoeagifjbpaa", sum := "51e130ac38df21e57a24a3bcb1d9940a2be18422427a80b08f982442d884975a", func := "flashlock/flashlocklaw11.Ipv4Makes", spec := "ipv4Makes", recurses := true, apart := false, narrowed := true }
def Ipv4MakesUptoSaid : Prop := ipv4MakesUptoRow.holds Try.pinned (OpenSpec.upto ipv4MakesSpec)

/-- 'flashlocklaw02.EwmaStays', WHERE WHAT IT READS IS OF BULK AT MOST 1048576: true; the input reads as it did. -/
def ewmaStaysUptoRow : OpenClaim := { program := "ytkgcoeagifjbpaa", sum := "51e130ac38df21e57a24a3bcb1d9940a2be18422427a80b08f982442d884975a", func := "flashlock/flashlocklaw02.EwmaStays", spec := "ewmaStays", apart := false, narrowed := true }
def EwmaStaysUptoSaid : Prop := ewmaStaysUptoRow.holds Try.pinned (OpenSpec.upto ewmaStaysSpec)

/-- 'flashlocklaw02.EwmaTells', WHERE WHAT IT READS IS OF BULK AT MOST 1048576: true; the input reads as it did. -/
def ewmaTellsUptoRow : OpenClaim := { program := "ytkgcoeagifjbpaa", sum := "51e130ac38df21e57a24a3bcb1d9940a2be18422427a80b08f982442d884975a", func := "flashlock/flashlocklaw02.EwmaTells", spec := "ewmaTells", apart := false, narrowed := true }
def EwmaTellsUptoSaid : Prop := ewmaTellsUptoRow.holds Try.pinned (OpenSpec.upto ewmaTellsSpec)

/-- 'flashlocklaw05.VclockPlays', WHERE WHAT IT READS IS OF BULK AT MOST 1048576: true; the input reads as it did. -/
def vclockPlaysUptoRow : OpenClaim := { program := "ytkgcoeagifjbpaa", sum := "51e130ac38df21e57a24a3bcb1d9940a2be18422427a80b08f982442d884975a", func := "flashlock/flashlocklaw05.VclockPlays", spec := "vclockPlays", apart := false, narrowed := true }
def VclockPlaysUptoSaid : Prop := vclockPlaysUptoRow.holds Try.pinned (OpenSpec.upto vclockPlaysSpec)

/-- 'flashlocklaw05.VclockParts', WHERE WHAT IT READS IS OF BULK AT MOST 1048576: true; the input reads as it did. -/
def vclockPartsUptoRow : OpenClaim := { program := "ytkgcoeagifjbpaa", sum := "51e130ac38df21e57a24a3bcb1d9940a2be18422427a80b08f982442d884975a", func := "flashlock/flashlocklaw05.VclockParts", spec := "vclockParts", apart := false, narrowed := true }
def VclockPartsUptoSaid : Prop := vclockPartsUptoRow.holds Try.pinned (OpenSpec.upto vclockPartsSpec)

/-- 'flashlocklaw01.SatParts', WHERE WHAT IT READS IS OF BULK AT MOST 1048576: true; the input reads as it did. -/
def satPartsUptoRow : OpenClaim := { program := "ytkgcoeagifjbpaa", sum := "51e130ac38df21e57a24a3bcb1d9940a2be18422427a80b08f982442d884975a", func := "flashlock/flashlocklaw01.SatParts", spec := "satParts", recurses := true, apart := false, narrowed := true }
def SatPartsUptoSaid : Prop := satPartsUptoRow.holds Try.pinned (OpenSpec.upto satPartsSpec)

/-- 'flashlocklaw01.SatKeeps', WHERE WHAT IT READS IS OF BULK AT MOST 1048576: true; the input reads as it did. -/
def satKeepsUptoRow : OpenClaim := { program := "ytkgcoeagifjbpaa", sum := "51e130ac38df21e57a24a3bcb1d9940a2be18422427a80b08f982442d884975a", func := "flashlock/flashlocklaw01.SatKeeps", spec := "satKeeps", apart := false, narrowed := true }
def SatKeepsUptoSaid : Prop := satKeepsUptoRow.holds Try.pinned (OpenSpec.upto satKeepsSpec)

/-- 'flashlocklaw01.SatTells', WHERE WHAT IT READS IS OF BULK AT MOST 1048576: true; the input reads as it did. -/
def satTellsUptoRow : OpenClaim := { program := "ytkgcoeagifjbpaa", sum := "51e130ac38df21e57a24a3bcb1d9940a2be18422427a80b08f982442d884975a", func := "flashlock/flashlocklaw01.SatTells", spec := "satTells", recurses := true, apart := false, narrowed := true }
def SatTellsUptoSaid : Prop := satTellsUptoRow.holds Try.pinned (OpenSpec.upto satTellsSpec)

end Rows
end Go.Proofs.Ytkgcoeagifjbpaa
