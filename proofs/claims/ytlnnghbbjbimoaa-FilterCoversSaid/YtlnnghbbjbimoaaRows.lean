/-
  No cell of these rows narrows 'for every input' (looked for: loops, veiled, ifaces, maps, wideKeys, modest, calm, conditions, laid).
  DERIVED. THE GIVEN ROWS OF THIS SEAT. 15 by the template 'for every input the law returns true; each argument reads behind the call as it read before'; 0 by the template 'total and deterministic' (their statements: YtlnnghbbjbimoaaTotals.lean).
  GIVEN WITH THE SEED: the statements are not yours to turn. If you find one false, say at which input.
  Laid BY PROGRAM, IN A SANDBOX (cutbox-rows.mjs): the forced cells as the released guide's own fill.sh prints them over the translation 88565855162edc67… (all of the seat's roots in one cut). By AI agents, Wed Nov 11 2026. No macro, syntax, notation, axiom, sorry.
-/
import Derived.Test.YtlnnghbbjbimoaaChecked
import GoSem.Claim
import GoSem.ClaimJoined
import GoSem.ClaimMapViews
import Derived.JoinedTies
import Derived.KernelRfl
namespace Go.Proofs.Ytlnnghbbjbimoaa
/- THE CELL 'sum', in the pinned program and in every row, IS THE sha256 OF THE DUMP (.gsa) THAT YtlnnghbbjbimoaaProg.lean LOADS. Nothing in Lean hashes anything: it is a label: what it is worth is what the hold of that sum in a sandbox is worth. -/
noncomputable def Try.pinned : Pinned := { name := "ytlnnghbbjbimoaa", sum := "88565855162edc674da32d0846dcacedace1114919035f99016d43fd74d3e599", checked := Try.checked }
namespace Rows
def none {H : Type} : Left H := { results := [], args := [] }

/-- 'flashlocklaw09.OctetsWrites': WHATEVER THE INPUT: true; the input reads as it did. -/
def octetsWritesSpec : ChangeSpec := { name := "octetsWrites", fn := fun _ => fun
  | [d1, d2, d3] => { results := [.lit (.bool true)], args := [d1, d2, d3] }
  | _ => none }
def octetsWritesRow : OpenClaim := { program := "ytlnnghbbjbimoaa", sum := "88565855162edc674da32d0846dcacedace1114919035f99016d43fd74d3e599", func := "flashlock/flashlocklaw09.OctetsWrites", spec := "octetsWrites", inPlace := ["math.Float64frombits", "math.Float64bits"], unfollowed := true, recurses := true, apart := false }
def OctetsWritesSaid : Prop := octetsWritesRow.holds Try.pinned (OpenSpec.ofChange octetsWritesSpec)

/-- ITS FALSE NEIGHBOUR: 'it returns false'. Refute it at one input. -/
def octetsWritesWrong : ChangeSpec := { name := "octetsWrites", fn := fun _ => fun
  | [d1, d2, d3] => { results := [.lit (.bool false)], args := [d1, d2, d3] }
  | _ => none }
def OctetsWritesWrongFalsely : Prop := octetsWritesRow.holds Try.pinned (OpenSpec.ofChange octetsWritesWrong)

/-- 'flashlocklaw15.FilterExact': WHATEVER THE INPUT: true; the input reads as it did. -/
def filterExactSpec : ChangeSpec := { name := "filterExact", fn := fun _ => fun
  | [d1, d2, d3] => { results := [.lit (.bool true)], args := [d1, d2, d3] }
  | _ => none }
def filterExactRow : OpenClaim := { program := "ytlnnghbbjbimoaa", sum := "88565855162edc674da32d0846dcacedace1114919035f99016d43fd74d3e599", func := "flashlock/flashlocklaw15.FilterExact", spec := "filterExact", unfollowed := true, recurses := true, apart := false }
def FilterExactSaid : Prop := filterExactRow.holds Try.pinned (OpenSpec.ofChange filterExactSpec)

/-- ITS FALSE NEIGHBOUR: 'it returns false'. Refute it at one input. -/
def filterExactWrong : ChangeSpec := { name := "filterExact", fn := fun _ => fun
  | [d1, d2, d3] => { results := [.lit (.bool false)], args := [d1, d2, d3] }
  | _ => none }
def FilterExactWrongFalsely : Prop := filterExactRow.holds Try.pinned (OpenSpec.ofChange filterExactWrong)

/-- 'flashlocklaw15.FilterTells': WHATEVER THE INPUT: true; the input reads as it did. -/
def filterTellsSpec : ChangeSpec := { name := "filterTells", fn := fun _ => fun
  | [d1, d2, d3] => { results := [.lit (.bool true)], args := [d1, d2, d3] }
  | _ => none }
def filterTellsRow : OpenClaim := { program := "ytlnnghbbjbimoaa", sum := "88565855162edc674da32d0846dcacedace1114919035f99016d43fd74d3e599", func := "flashlock/flashlocklaw15.FilterTells", spec := "filterTells", unfollowed := true, recurses := true, apart := false }
def FilterTellsSaid : Prop := filterTellsRow.holds Try.pinned (OpenSpec.ofChange filterTellsSpec)

/-- ITS FALSE NEIGHBOUR: 'it returns false'. Refute it at one input. -/
def filterTellsWrong : ChangeSpec := { name := "filterTells", fn := fun _ => fun
  | [d1, d2, d3] => { results := [.lit (.bool false)], args := [d1, d2, d3] }
  | _ => none }
def FilterTellsWrongFalsely : Prop := filterTellsRow.holds Try.pinned (OpenSpec.ofChange filterTellsWrong)

/-- 'flashlocklaw15.FilterCovers': WHATEVER THE INPUT: true; the input reads as it did. -/
def filterCoversSpec : ChangeSpec := { name := "filterCovers", fn := fun _ => fun
  | [d1, d2] => { results := [.lit (.bool true)], args := [d1, d2] }
  | _ => none }
def filterCoversRow : OpenClaim := { program := "ytlnnghbbjbimoaa", sum := "88565855162edc674da32d0846dcacedace1114919035f99016d43fd74d3e599", func := "flashlock/flashlocklaw15.FilterCovers", spec := "filterCovers", unfollowed := true, recurses := true, apart := false }
def FilterCoversSaid : Prop := filterCoversRow.holds Try.pinned (OpenSpec.ofChange filterCoversSpec)

/-- ITS FALSE NEIGHBOUR: 'it returns false'. Refute it at one input. -/
def filterCoversWrong : ChangeSpec := { name := "filterCovers", fn := fun _ => fun
  | [d1, d2] => { results := [.lit (.bool false)], args := [d1, d2] }
  | _ => none }
def FilterCoversWrongFalsely : Prop := filterCoversRow.holds Try.pinned (OpenSpec.ofChange filterCoversWrong)

/-- 'flashlocklaw13.PortsTells': WHATEVER THE INPUT: true; the input reads as it did. -/
def portsTellsSpec : ChangeSpec := { name := "portsTells", fn := fun _ => fun
  | [d1, d2] => { results := [.lit (.bool true)], args := [d1, d2] }
  | _ => none }
def portsTellsRow : OpenClaim := { program := "ytlnnghbbjbimoaa", sum := "88565855162edc674da32d0846dcacedace1114919035f99016d43fd74d3e599", func := "flashlock/flashlocklaw13.PortsTells", spec := "portsTells", unfollowed := true, recurses := true, apart := false }
def PortsTellsSaid : Prop := portsTellsRow.holds Try.pinned (OpenSpec.ofChange portsTellsSpec)

/-- ITS FALSE NEIGHBOUR: 'it returns false'. Refute it at one input. -/
def portsTellsWrong : ChangeSpec := { name := "portsTells", fn := fun _ => fun
  | [d1, d2] => { results := [.lit (.bool false)], args := [d1, d2] }
  | _ => none }
def PortsTellsWrongFalsely : Prop := portsTellsRow.holds Try.pinned (OpenSpec.ofChange portsTellsWrong)

/-- 'flashlocklaw13.PortsBack': WHATEVER THE INPUT: true; the input reads as it did. -/
def portsBackSpec : ChangeSpec := { name := "portsBack", fn := fun _ => fun
  | [d1, d2, d3] => { results := [.lit (.bool true)], args := [d1, d2, d3] }
  | _ => none }
def portsBackRow : OpenClaim := { program := "ytlnnghbbjbimoaa", sum := "88565855162edc674da32d0846dcacedace1114919035f99016d43fd74d3e599", func := "flashlock/flashlocklaw13.PortsBack", spec := "portsBack", unfollowed := true, recurses := true, apart := false }
def PortsBackSaid : Prop := portsBackRow.holds Try.pinned (OpenSpec.ofChange portsBackSpec)

/-- ITS FALSE NEIGHBOUR: 'it returns false'. Refute it at one input. -/
def portsBackWrong : ChangeSpec := { name := "portsBack", fn := fun _ => fun
  | [d1, d2, d3] => { results := [.lit (.bool false)], args := [d1, d2, d3] }
  | _ => none }
def PortsBackWrongFalsely : Prop := portsBackRow.holds Try.pinned (OpenSpec.ofChange portsBackWrong)

/-- 'flashlocklaw09.OctetsReads': WHATEVER THE INPUT: true; the input reads as it did. -/
def octetsReadsSpec : ChangeSpec := { name := "octetsReads", fn := fun _ => fun
  | [d1, d2] => { results := [.lit (.bool true)], args := [d1, d2] }
  | _ => none }
def octetsReadsRow : OpenClaim := { program := "ytlnnghbbjbimoaa", sum := "88565855162edc674da32d0846dcacedace1114919035f99016d43fd74d3e599", func := "flashlock/flashlocklaw09.OctetsReads", spec := "octetsReads", inPlace := ["math.Float64frombits"], unfollowed := true, recurses := true, apart := false }
def OctetsReadsSaid : Prop := octetsReadsRow.holds Try.pinned (OpenSpec.ofChange octetsReadsSpec)

/-- ITS FALSE NEIGHBOUR: 'it returns false'. Refute it at one input. -/
def octetsReadsWrong : ChangeSpec := { name := "octetsReads", fn := fun _ => fun
  | [d1, d2] => { results := [.lit (.bool false)], args := [d1, d2] }
  | _ => none }
def OctetsReadsWrongFalsely : Prop := octetsReadsRow.holds Try.pinned (OpenSpec.ofChange octetsReadsWrong)

/-- 'flashlocklaw10.InetBytes': WHATEVER THE INPUT: true; the input reads as it did. -/
def inetBytesSpec : ChangeSpec := { name := "inetBytes", fn := fun _ => fun
  | [d1, d2, d3] => { results := [.lit (.bool true)], args := [d1, d2, d3] }
  | _ => none }
def inetBytesRow : OpenClaim := { program := "ytlnnghbbjbimoaa", sum := "88565855162edc674da32d0846dcacedace1114919035f99016d43fd74d3e599", func := "flashlock/flashlocklaw10.InetBytes", spec := "inetBytes", unfollowed := true, recurses := true, apart := false }
def InetBytesSaid : Prop := inetBytesRow.holds Try.pinned (OpenSpec.ofChange inetBytesSpec)

/-- ITS FALSE NEIGHBOUR: 'it returns false'. Refute it at one input. -/
def inetBytesWrong : ChangeSpec := { name := "inetBytes", fn := fun _ => fun
  | [d1, d2, d3] => { results := [.lit (.bool false)], args := [d1, d2, d3] }
  | _ => none }
def InetBytesWrongFalsely : Prop := inetBytesRow.holds Try.pinned (OpenSpec.ofChange inetBytesWrong)

/-- 'flashlocklaw09.OctetsBack': WHATEVER THE INPUT: true; the input reads as it did. -/
def octetsBackSpec : ChangeSpec := { name := "octetsBack", fn := fun _ => fun
  | [d1, d2, d3] => { results := [.lit (.bool true)], args := [d1, d2, d3] }
  | _ => none }
def octetsBackRow : OpenClaim := { program := "ytlnnghbbjbimoaa", sum := "88565855162edc674da32d0846dcacedace1114919035f99016d43fd74d3e599", func := "flashlock/flashlocklaw09.OctetsBack", spec := "octetsBack", inPlace := ["math.Float64frombits", "math.Float64bits"], unfollowed := true, recurses := true, apart := false }
def OctetsBackSaid : Prop := octetsBackRow.holds Try.pinned (OpenSpec.ofChange octetsBackSpec)

/-- ITS FALSE NEIGHBOUR: 'it returns false'. Refute it at one input. -/
def octetsBackWrong : ChangeSpec := { name := "octetsBack", fn := fun _ => fun
  | [d1, d2, d3] => { results := [.lit (.bool false)], args := [d1, d2, d3] }
  | _ => none }
def OctetsBackWrongFalsely : Prop := octetsBackRow.holds Try.pinned (OpenSpec.ofChange octetsBackWrong)

/-- 'flashlocklaw39.ReplyGets': WHATEVER THE INPUT: true; the input reads as it did. -/
def replyGetsSpec : ChangeSpec := { name := "replyGets", fn := fun _ => fun
  | [d1, d2] => { results := [.lit (.bool true)], args := [d1, d2] }
  | _ => none }
def replyGetsRow : OpenClaim := { program := "ytlnnghbbjbimoaa", sum := "88565855162edc674da32d0846dcacedace1114919035f99016d43fd74d3e599", func := "flashlock/flashlocklaw39.ReplyGets", spec := "replyGets", unfollowed := true, recurses := true, apart := false }
def ReplyGetsSaid : Prop := replyGetsRow.holds Try.pinned (OpenSpec.ofChange replyGetsSpec)

/-- ITS FALSE NEIGHBOUR: 'it returns false'. Refute it at one input. -/
def replyGetsWrong : ChangeSpec := { name := "replyGets", fn := fun _ => fun
  | [d1, d2] => { results := [.lit (.bool false)], args := [d1, d2] }
  | _ => none }
def ReplyGetsWrongFalsely : Prop := replyGetsRow.holds Try.pinned (OpenSpec.ofChange replyGetsWrong)

/-- 'flashlocklaw39.ReplyBack': WHATEVER THE INPUT: true; the input reads as it did. -/
def replyBackSpec : ChangeSpec := { name := "replyBack", fn := fun _ => fun
  | [d1, d2] => { results := [.lit (.bool true)], args := [d1, d2] }
  | _ => none }
def replyBackRow : OpenClaim := { program := "ytlnnghbbjbimoaa", sum := "88565855162edc674da32d0846dcacedace1114919035f99016d43fd74d3e599", func := "flashlock/flashlocklaw39.ReplyBack", spec := "replyBack", unfollowed := true, recurses := true, apart := false }
def ReplyBackSaid : Prop := replyBackRow.holds Try.pinned (OpenSpec.ofChange replyBackSpec)

/-- ITS FALSE NEIGHBOUR: 'it returns false'. Refute it at one input. -/
def replyBackWrong : ChangeSpec := { name := "replyBack", fn := fun _ => fun
  | [d1, d2] => { results := [.lit (.bool false)], args := [d1, d2] }
  | _ => none }
def ReplyBackWrongFalsely : Prop := replyBackRow.holds Try.pinned (OpenSpec.ofChange replyBackWrong)

/-- 'flashlocklaw10.InetTells': WHATEVER THE INPUT: true; the input reads as it did. -/
def inetTellsSpec : ChangeSpec := { name := "inetTells", fn := fun _ => fun
  | [d1, d2, d3] => { results := [.lit (.bool true)], args := [d1, d2, d3] }
  | _ => none }
def inetTellsRow : OpenClaim := { program := "ytlnnghbbjbimoaa", sum := "88565855162edc674da32d0846dcacedace1114919035f99016d43fd74d3e599", func := "flashlock/flashlocklaw10.InetTells", spec := "inetTells", apart := false }
def InetTellsSaid : Prop := inetTellsRow.holds Try.pinned (OpenSpec.ofChange inetTellsSpec)

/-- ITS FALSE NEIGHBOUR: 'it returns false'. Refute it at one input. -/
def inetTellsWrong : ChangeSpec := { name := "inetTells", fn := fun _ => fun
  | [d1, d2, d3] => { results := [.lit (.bool false)], args := [d1, d2, d3] }
  | _ => none }
def InetTellsWrongFalsely : Prop := inetTellsRow.holds Try.pinned (OpenSpec.ofChange inetTellsWrong)

/-- 'flashlocklaw10.InetNests': WHATEVER THE INPUT: true; the input reads as it did. -/
def inetNestsSpec : ChangeSpec := { name := "inetNests", fn := fun _ => fun
  | [d1, d2, d3] => { results := [.lit (.bool true)], args := [d1, d2, d3] }
  | _ => none }
def inetNestsRow : OpenClaim := { program := "ytlnnghbbjbimoaa", sum := "88565855162edc674da32d0846dcacedace1114919035f99016d43fd74d3e599", func := "flashlock/flashlocklaw10.InetNests", spec := "inetNests", apart := false }
def InetNestsSaid : Prop := inetNestsRow.holds Try.pinned (OpenSpec.ofChange inetNestsSpec)

/-- ITS FALSE NEIGHBOUR: 'it returns false'. Refute it at one input. -/
def inetNestsWrong : ChangeSpec := { name := "inetNests", fn := fun _ => fun
  | [d1, d2, d3] => { results := [.lit (.bool false)], args := [d1, d2, d3] }
  | _ => none }
def InetNestsWrongFalsely : Prop := inetNestsRow.holds Try.pinned (OpenSpec.ofChange inetNestsWrong)

/-- 'flashlocklaw11.Ipv4Tells': WHATEVER THE INPUT: true; the input reads as it did. -/
def ipv4TellsSpec : ChangeSpec := { name := "ipv4Tells", fn := fun _ => fun
  | [d] => { results := [.lit (.bool true)], args := [d] }
  | _ => none }
def ipv4TellsRow : OpenClaim := { program := "ytlnnghbbjbimoaa", sum := "88565855162edc674da32d0846dcacedace1114919035f99016d43fd74d3e599", func := "flashlock/flashlocklaw11.Ipv4Tells", spec := "ipv4Tells", unfollowed := true, recurses := true, apart := false }
def Ipv4TellsSaid : Prop := ipv4TellsRow.holds Try.pinned (OpenSpec.ofChange ipv4TellsSpec)

/-- ITS FALSE NEIGHBOUR: 'it returns false'. Refute it at one input. -/
def ipv4TellsWrong : ChangeSpec := { name := "ipv4Tells", fn := fun _ => fun
  | [d] => { results := [.lit (.bool false)], args := [d] }
  | _ => none }
def Ipv4TellsWrongFalsely : Prop := ipv4TellsRow.holds Try.pinned (OpenSpec.ofChange ipv4TellsWrong)

/-- 'flashlocklaw11.Ipv4Back': WHATEVER THE INPUT: true; the input reads as it did. -/
def ipv4BackSpec : ChangeSpec := { name := "ipv4Back", fn := fun _ => fun
  | [d1, d2, d3] => { results := [.lit (.bool true)], args := [d1, d2, d3] }
  | _ => none }
def ipv4BackRow : OpenClaim := { program := "ytlnnghbbjbimoaa", sum := "88565855162edc674da32d0846dcacedace1114919035f99016d43fd74d3e599", func := "flashlock/flashlocklaw11.Ipv4Back", spec := "ipv4Back", unfollowed := true, recurses := true, apart := false }
def Ipv4BackSaid : Prop := ipv4BackRow.holds Try.pinned (OpenSpec.ofChange ipv4BackSpec)

/-- ITS FALSE NEIGHBOUR: 'it returns false'. Refute it at one input. -/
def ipv4BackWrong : ChangeSpec := { name := "ipv4Back", fn := fun _ => fun
  | [d1, d2, d3] => { results := [.lit (.bool false)], args := [d1, d2, d3] }
  | _ => none }
def Ipv4BackWrongFalsely : Prop := ipv4BackRow.holds Try.pinned (OpenSpec.ofChange ipv4BackWrong)

/- THE SECOND FORM. 'bulk': how many values and letters a reading holds, each counted each time it is reached (what is shared counts as often as it is met; a slice's spare places count too). A statement '..UptoSaid' is the law's where the arguments, and the package variables that the reading takes, are together of bulk at most 1048576: NARROWER than '..Said'. Prove '..Said' where nothing that the law and all that it calls make is longer than what came in: it says more and counts as full. Else prove '..UptoSaid'. A law counts once. -/
mutual
def uptoBulk {H : Type} : DataW H → Nat
  | .lit (.string bytes) => bytes.length + 1
  | .lit _ => 1
  | .nil => 1
  | .ptr d => uptoBulk d + 1
  | .slice elems spare => uptoBulkAll elems + uptoBulkAll spare + 1
  | .agg parts => uptoBulkAll parts + 1
  | .iface _ d => uptoBulk d + 1
  | .map entries => uptoBulkEntries entries + 1
  | .held _ => 1
def uptoBulkAll {H : Type} : List (DataW H) → Nat
  | [] => 0
  | d :: r => uptoBulk d + uptoBulkAll r
def uptoBulkEntries {H : Type} : List (Lit × DataW H) → Nat
  | [] => 0
  | x :: r => uptoBulkEntry x + uptoBulkEntries r
def uptoBulkEntry {H : Type} : Lit × DataW H → Nat
  | (.string bytes, d) => bytes.length + uptoBulk d + 1
  | (_, d) => uptoBulk d + 1
 end
def uptoSmall : (H : Type) → List (DataW H) → Bool := fun _ ds => decide (uptoBulkAll ds ≤ 1048576)
def OpenSpec.upto (s : _root_.Go.ChangeSpec) : _root_.Go.OpenSpec := { _root_.Go.OpenSpec.ofChange s with cond := some uptoSmall }

/-- 'flashlocklaw09.OctetsWrites', WHERE WHAT IT READS IS OF BULK AT MOST 1048576: true; the input reads as it did. -/
def octetsWritesUptoRow : OpenClaim := { program := "ytlnnghbbjbimoaa", sum := "88565855162edc674da32d0846dcacedace1114919035f99016d43fd74d3e599", func := "flashlock/flashlocklaw09.OctetsWrites", spec := "octetsWrites", inPlace := ["math.Float64frombits", "math.Float64bits"], unfollowed := true, recurses := true, apart := false, narrowed := true }
def OctetsWritesUptoSaid : Prop := octetsWritesUptoRow.holds Try.pinned (OpenSpec.upto octetsWritesSpec)

/-- 'flashlocklaw15.FilterExact', WHERE WHAT IT READS IS OF BULK AT MOST 1048576: true; the input reads as it did. -/
def filterExactUptoRow : OpenClaim := { program := "ytlnnghbbjbimoaa", sum := "88565855162edc674da32d0846dcacedace1114919035f99016d43fd74d3e599", func := "flashlock/flashlocklaw15.FilterExact", spec := "filterExact", unfollowed := true, recurses := true, apart := false, narrowed := true }
def FilterExactUptoSaid : Prop := filterExactUptoRow.holds Try.pinned (OpenSpec.upto filterExactSpec)

/-- 'flashlocklaw15.FilterTells', WHERE WHAT IT READS IS OF BULK AT MOST 1048576: true; the input reads as it did. -/
def filterTellsUptoRow : OpenClaim := { program := "ytlnnghbbjbimoaa", sum := "88565855162edc674da32d0846dcacedace1114919035f99016d43fd74d3e599", func := "flashlock/flashlocklaw15.FilterTells", spec := "filterTells", unfollowed := true, recurses := true, apart := false, narrowed := true }
def FilterTellsUptoSaid : Prop := filterTellsUptoRow.holds Try.pinned (OpenSpec.upto filterTellsSpec)

/-- 'flashlocklaw15.FilterCovers', WHERE WHAT IT READS IS OF BULK AT MOST 1048576: true; the input reads as it did. -/
def filterCoversUptoRow : OpenClaim := { program := "ytlnnghbbjbimoaa", sum := "88565855162edc674da32d0846dcacedace1114919035f99016d43fd74d3e599", func := "flashlock/flashlocklaw15.FilterCovers", spec := "filterCovers", unfollowed := true, recurses := true, apart := false, narrowed := true }
def FilterCoversUptoSaid : Prop := filterCoversUptoRow.holds Try.pinned (OpenSpec.upto filterCoversSpec)

/-- 'flashlocklaw13.PortsTells', WHERE WHAT IT READS IS OF BULK AT MOST 1048576: true; the input reads as it did. -/
def portsTellsUptoRow : OpenClaim := { program := "ytlnnghbbjbimoaa", sum := "88565855162edc674da32d0846dcacedace1114919035f99016d43fd74d3e599", func := "flashlock/flashlocklaw13.PortsTells", spec := "portsTells", unfollowed := true, recurses := true, apart := false, narrowed := true }
def PortsTellsUptoSaid : Prop := portsTellsUptoRow.holds Try.pinned (OpenSpec.upto portsTellsSpec)

/-- 'flashlocklaw13.PortsBack', WHERE WHAT IT READS IS OF BULK AT MOST 1048576: true; the input reads as it did. -/
def portsBackUptoRow : OpenClaim := { program := "ytlnnghbbjbimoaa", sum := "88565855162edc674da32d0846dcacedace1114919035f99016d43fd74d3e599", func := "flashlock/flashlocklaw13.PortsBack", spec := "portsBack", unfollowed := true, recurses := true, apart := false, narrowed := true }
def PortsBackUptoSaid : Prop := portsBackUptoRow.holds Try.pinned (OpenSpec.upto portsBackSpec)

/-- 'flashlocklaw09.OctetsReads', WHERE WHAT IT READS IS OF BULK AT MOST 1048576: true; the input reads as it did. -/
def octetsReadsUptoRow : OpenClaim := { program := "ytlnnghbbjbimoaa", sum := "88565855162edc674da32d0846dcacedace1114919035f99016d43fd74d3e599", func := "flashlock/flashlocklaw09.OctetsReads", spec := "octetsReads", inPlace := ["math.Float64frombits"], unfollowed := true, recurses := true, apart := false, narrowed := true }
def OctetsReadsUptoSaid : Prop := octetsReadsUptoRow.holds Try.pinned (OpenSpec.upto octetsReadsSpec)

/-- 'flashlocklaw10.InetBytes', WHERE WHAT IT READS IS OF BULK AT MOST 1048576: true; the input reads as it did. -/
def inetBytesUptoRow : OpenClaim := { program := "ytlnnghbbjbimoaa", sum := "88565855162edc674da32d0846dcacedace1114919035f99016d43fd74d3e599", func := "flashlock/flashlocklaw10.InetBytes", spec := "inetBytes", unfollowed := true, recurses := true, apart := false, narrowed := true }
def InetBytesUptoSaid : Prop := inetBytesUptoRow.holds Try.pinned (OpenSpec.upto inetBytesSpec)

/-- 'flashlocklaw09.OctetsBack', WHERE WHAT IT READS IS OF BULK AT MOST 1048576: true; the input reads as it did. -/
def octetsBackUptoRow : OpenClaim := { program := "ytlnnghbbjbimoaa", sum := "88565855162edc674da32d0846dcacedace1114919035f99016d43fd74d3e599", func := "flashlock/flashlocklaw09.OctetsBack", spec := "octetsBack", inPlace := ["math.Float64frombits", "math.Float64bits"], unfollowed := true, recurses := true, apart := false, narrowed := true }
def OctetsBackUptoSaid : Prop := octetsBackUptoRow.holds Try.pinned (OpenSpec.upto octetsBackSpec)

/-- 'flashlocklaw39.ReplyGets', WHERE WHAT IT READS IS OF BULK AT MOST 1048576: true; the input reads as it did. -/
def replyGetsUptoRow : OpenClaim := { program := "ytlnnghbbjbimoaa", sum := "88565855162edc674da32d0846dcacedace1114919035f99016d43fd74d3e599", func := "flashlock/flashlocklaw39.ReplyGets", spec := "replyGets", unfollowed := true, recurses := true, apart := false, narrowed := true }
def ReplyGetsUptoSaid : Prop := replyGetsUptoRow.holds Try.pinned (OpenSpec.upto replyGetsSpec)

/-- 'flashlocklaw39.ReplyBack', WHERE WHAT IT READS IS OF BULK AT MOST 1048576: true; the input reads as it did. -/
def replyBackUptoRow : OpenClaim := { program := "ytlnnghbbjbimoaa", sum := "88565855162edc674da32d0846dcacedace1114919035f99016d43fd74d3e599", func := "flashlock/flashlocklaw39.ReplyBack", spec := "replyBack", unfollowed := true, recurses := true, apart := false, narrowed := true }
def ReplyBackUptoSaid : Prop := replyBackUptoRow.holds Try.pinned (OpenSpec.upto replyBackSpec)

/-- 'flashlocklaw10.InetTells', WHERE WHAT IT READS IS OF BULK AT MOST 1048576: true; the input reads as it did. -/
def inetTellsUptoRow : OpenClaim := { program := "ytlnnghbbjbimoaa", sum := "88565855162edc674da32d0846dcacedace1114919035f99016d43fd74d3e599", func := "flashlock/flashlocklaw10.InetTells", spec := "inetTells", apart := false, narrowed := true }
def InetTellsUptoSaid : Prop := inetTellsUptoRow.holds Try.pinned (OpenSpec.upto inetTellsSpec)

/-- 'flashlocklaw10.InetNests', WHERE WHAT IT READS IS OF BULK AT MOST 1048576: true; the input reads as it did. -/
def inetNestsUptoRow : OpenClaim := { program := "ytlnnghbbjbimoaa", sum := "88565855162edc674da32d0846dcacedace1114919035f99016d43fd74d3e599", func := "flashlock/flashlocklaw10.InetNests", spec := "inetNests", apart := false, narrowed := true }
def InetNestsUptoSaid : Prop := inetNestsUptoRow.holds Try.pinned (OpenSpec.upto inetNestsSpec)

/-- 'flashlocklaw11.Ipv4Tells', WHERE WHAT IT READS IS OF BULK AT MOST 1048576: true; the input reads as it did. -/
def ipv4TellsUptoRow : OpenClaim := { program := "ytlnnghbbjbimoaa", sum := "88565855162edc674da32d0846dcacedace1114919035f99016d43fd74d3e599", func := "flashlock/flashlocklaw11.Ipv4Tells", spec := "ipv4Tells", unfollowed := true, recurses := true, apart := false, narrowed := true }
def Ipv4TellsUptoSaid : Prop := ipv4TellsUptoRow.holds Try.pinned (OpenSpec.upto ipv4TellsSpec)

/-- 'flashlocklaw11.Ipv4Back', WHERE WHAT IT READS IS OF BULK AT MOST 1048576: true; the input reads as it did. -/
def ipv4BackUptoRow : OpenClaim := { program := "ytlnnghbbjbimoaa", sum := "88565855162edc674da32d0846dcacedace1114919035f99016d43fd74d3e599", func := "flashlock/flashlocklaw11.Ipv4Back", spec := "ipv4Back", unfollowed := true, recurses := true, apart := false, narrowed := true }
def Ipv4BackUptoSaid : Prop := ipv4BackUptoRow.holds Try.pinned (OpenSpec.upto ipv4BackSpec)

end Rows
end Go.Proofs.Ytlnnghbbjbimoaa
