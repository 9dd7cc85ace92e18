/-
  No cell of these rows narrows 'for every input' (looked for: loops, veiled, ifaces, maps, wideKeys, modest, calm, conditions, laid).
  DERIVED. THE GIVEN ROWS OF THIS SEAT. 12 by the template 'for every input the law returns true; each argument reads behind the call as it read before'; 0 by the template 'total and deterministic' (their statements: YthpophgcmgdpjaaTotals.lean).
  GIVEN WITH THE SEED: the statements are not yours to turn. If you find one false, say at which input.
  Laid BY PROGRAM, IN A SANDBOX (cutbox-rows.mjs): the forced cells as the released guide's own fill.sh prints them over the translation ec85800b69ff1277… (all of the seat's roots in one cut). By AI agents, Wed Nov 11 2026. No macro, syntax, notation, axiom, sorry.
-/
import Derived.Test.YthpophgcmgdpjaaChecked
import GoSem.Claim
import GoSem.ClaimJoined
import GoSem.ClaimMapViews
import Derived.JoinedTies
import Derived.KernelRfl
namespace Go.Proofs.Ythpophgcmgdpjaa
/- THE CELL 'sum', in the pinned program and in every row, IS THE sha256 OF THE DUMP (.gsa) THAT YthpophgcmgdpjaaProg.lean LOADS. Nothing in Lean hashes anything: it is a label: what it is worth is what the hold of that sum in a sandbox is worth. -/
noncomputable def Try.pinned : Pinned := { name := "ythpophgcmgdpjaa", sum := "ec85800b69ff127754cb307e651e5529b7ae7732eb13b3a2f78f5fde7ff751d2", checked := Try.checked }
namespace Rows
def none {H : Type} : Left H := { results := [], args := [] }

/-- 'spillwaylaw.FieldsDecodes': WHATEVER THE INPUT: true; the input reads as it did. -/
def fieldsDecodesSpec : ChangeSpec := { name := "fieldsDecodes", fn := fun _ => fun
  | [d1, d2] => { results := [.lit (.bool true)], args := [d1, d2] }
  | _ => none }
def fieldsDecodesRow : OpenClaim := { program := "ythpophgcmgdpjaa", sum := "ec85800b69ff127754cb307e651e5529b7ae7732eb13b3a2f78f5fde7ff751d2", func := "spillway/spillwaylaw.FieldsDecodes", spec := "fieldsDecodes", apart := false }
def FieldsDecodesSaid : Prop := fieldsDecodesRow.holds Try.pinned (OpenSpec.ofChange fieldsDecodesSpec)

/-- ITS FALSE NEIGHBOUR: 'it returns false'. Refute it at one input. -/
def fieldsDecodesWrong : ChangeSpec := { name := "fieldsDecodes", fn := fun _ => fun
  | [d1, d2] => { results := [.lit (.bool false)], args := [d1, d2] }
  | _ => none }
def FieldsDecodesWrongFalsely : Prop := fieldsDecodesRow.holds Try.pinned (OpenSpec.ofChange fieldsDecodesWrong)

/-- 'spillwaylaw.FieldsEncodes': WHATEVER THE INPUT: true; the input reads as it did. -/
def fieldsEncodesSpec : ChangeSpec := { name := "fieldsEncodes", fn := fun _ => fun
  | [d1, d2, d3] => { results := [.lit (.bool true)], args := [d1, d2, d3] }
  | _ => none }
def fieldsEncodesRow : OpenClaim := { program := "ythpophgcmgdpjaa", sum := "ec85800b69ff127754cb307e651e5529b7ae7732eb13b3a2f78f5fde7ff751d2", func := "spillway/spillwaylaw.FieldsEncodes", spec := "fieldsEncodes", apart := false }
def FieldsEncodesSaid : Prop := fieldsEncodesRow.holds Try.pinned (OpenSpec.ofChange fieldsEncodesSpec)

/-- ITS FALSE NEIGHBOUR: 'it returns false'. Refute it at one input. -/
def fieldsEncodesWrong : ChangeSpec := { name := "fieldsEncodes", fn := fun _ => fun
  | [d1, d2, d3] => { results := [.lit (.bool false)], args := [d1, d2, d3] }
  | _ => none }
def FieldsEncodesWrongFalsely : Prop := fieldsEncodesRow.holds Try.pinned (OpenSpec.ofChange fieldsEncodesWrong)

/-- 'spillwaylaw.PrefixEncodes': WHATEVER THE INPUT: true; the input reads as it did. -/
def prefixEncodesSpec : ChangeSpec := { name := "prefixEncodes", fn := fun _ => fun
  | [d1, d2, d3, d4] => { results := [.lit (.bool true)], args := [d1, d2, d3, d4] }
  | _ => none }
def prefixEncodesRow : OpenClaim := { program := "ythpophgcmgdpjaa", sum := "ec85800b69ff127754cb307e651e5529b7ae7732eb13b3a2f78f5fde7ff751d2", func := "spillway/spillwaylaw.PrefixEncodes", spec := "prefixEncodes", apart := false }
def PrefixEncodesSaid : Prop := prefixEncodesRow.holds Try.pinned (OpenSpec.ofChange prefixEncodesSpec)

/-- ITS FALSE NEIGHBOUR: 'it returns false'. Refute it at one input. -/
def prefixEncodesWrong : ChangeSpec := { name := "prefixEncodes", fn := fun _ => fun
  | [d1, d2, d3, d4] => { results := [.lit (.bool false)], args := [d1, d2, d3, d4] }
  | _ => none }
def PrefixEncodesWrongFalsely : Prop := prefixEncodesRow.holds Try.pinned (OpenSpec.ofChange prefixEncodesWrong)

/-- 'spillwaylaw.RequestWrites': WHATEVER THE INPUT: true; the input reads as it did. -/
def requestWritesSpec : ChangeSpec := { name := "requestWrites", fn := fun _ => fun
  | [d1, d2, d3] => { results := [.lit (.bool true)], args := [d1, d2, d3] }
  | _ => none }
def requestWritesRow : OpenClaim := { program := "ythpophgcmgdpjaa", sum := "ec85800b69ff127754cb307e651e5529b7ae7732eb13b3a2f78f5fde7ff751d2", func := "spillway/spillwaylaw.RequestWrites", spec := "requestWrites", apart := false }
def RequestWritesSaid : Prop := requestWritesRow.holds Try.pinned (OpenSpec.ofChange requestWritesSpec)

/-- ITS FALSE NEIGHBOUR: 'it returns false'. Refute it at one input. -/
def requestWritesWrong : ChangeSpec := { name := "requestWrites", fn := fun _ => fun
  | [d1, d2, d3] => { results := [.lit (.bool false)], args := [d1, d2, d3] }
  | _ => none }
def RequestWritesWrongFalsely : Prop := requestWritesRow.holds Try.pinned (OpenSpec.ofChange requestWritesWrong)

/-- 'spillwaylaw.RequestFeeds': WHATEVER THE INPUT: true; the input reads as it did. -/
def requestFeedsSpec : ChangeSpec := { name := "requestFeeds", fn := fun _ => fun
  | [d1, d2, d3, d4] => { results := [.lit (.bool true)], args := [d1, d2, d3, d4] }
  | _ => none }
def requestFeedsRow : OpenClaim := { program := "ythpophgcmgdpjaa", sum := "ec85800b69ff127754cb307e651e5529b7ae7732eb13b3a2f78f5fde7ff751d2", func := "spillway/spillwaylaw.RequestFeeds", spec := "requestFeeds", apart := false }
def RequestFeedsSaid : Prop := requestFeedsRow.holds Try.pinned (OpenSpec.ofChange requestFeedsSpec)

/-- ITS FALSE NEIGHBOUR: 'it returns false'. Refute it at one input. -/
def requestFeedsWrong : ChangeSpec := { name := "requestFeeds", fn := fun _ => fun
  | [d1, d2, d3, d4] => { results := [.lit (.bool false)], args := [d1, d2, d3, d4] }
  | _ => none }
def RequestFeedsWrongFalsely : Prop := requestFeedsRow.holds Try.pinned (OpenSpec.ofChange requestFeedsWrong)

/-- 'spillwaylaw.GatherPuts': WHATEVER THE INPUT: true; the input reads as it did. -/
def gatherPutsSpec : ChangeSpec := { name := "gatherPuts", fn := fun _ => fun
  | [d1, d2, d3, d4] => { results := [.lit (.bool true)], args := [d1, d2, d3, d4] }
  | _ => none }
def gatherPutsRow : OpenClaim := { program := "ythpophgcmgdpjaa", sum := "ec85800b69ff127754cb307e651e5529b7ae7732eb13b3a2f78f5fde7ff751d2", func := "spillway/spillwaylaw.GatherPuts", spec := "gatherPuts", unfollowed := true, recurses := true, apart := false }
def GatherPutsSaid : Prop := gatherPutsRow.holds Try.pinned (OpenSpec.ofChange gatherPutsSpec)

/-- ITS FALSE NEIGHBOUR: 'it returns false'. Refute it at one input. -/
def gatherPutsWrong : ChangeSpec := { name := "gatherPuts", fn := fun _ => fun
  | [d1, d2, d3, d4] => { results := [.lit (.bool false)], args := [d1, d2, d3, d4] }
  | _ => none }
def GatherPutsWrongFalsely : Prop := gatherPutsRow.holds Try.pinned (OpenSpec.ofChange gatherPutsWrong)

/-- 'spillwaylaw.GateChecks': WHATEVER THE INPUT: true; the input reads as it did. -/
def gateChecksSpec : ChangeSpec := { name := "gateChecks", fn := fun _ => fun
  | [d1, d2, d3] => { results := [.lit (.bool true)], args := [d1, d2, d3] }
  | _ => none }
def gateChecksRow : OpenClaim := { program := "ythpophgcmgdpjaa", sum := "ec85800b69ff127754cb307e651e5529b7ae7732eb13b3a2f78f5fde7ff751d2", func := "spillway/spillwaylaw.GateChecks", spec := "gateChecks", apart := false }
def GateChecksSaid : Prop := gateChecksRow.holds Try.pinned (OpenSpec.ofChange gateChecksSpec)

/-- ITS FALSE NEIGHBOUR: 'it returns false'. Refute it at one input. -/
def gateChecksWrong : ChangeSpec := { name := "gateChecks", fn := fun _ => fun
  | [d1, d2, d3] => { results := [.lit (.bool false)], args := [d1, d2, d3] }
  | _ => none }
def GateChecksWrongFalsely : Prop := gateChecksRow.holds Try.pinned (OpenSpec.ofChange gateChecksWrong)

/-- 'spillwaylaw.GatePackets': WHATEVER THE INPUT: true; the input reads as it did. -/
def gatePacketsSpec : ChangeSpec := { name := "gatePackets", fn := fun _ => fun
  | [d1, d2, d3, d4, d5] => { results := [.lit (.bool true)], args := [d1, d2, d3, d4, d5] }
  | _ => none }
def gatePacketsRow : OpenClaim := { program := "ythpophgcmgdpjaa", sum := "ec85800b69ff127754cb307e651e5529b7ae7732eb13b3a2f78f5fde7ff751d2", func := "spillway/spillwaylaw.GatePackets", spec := "gatePackets", unfollowed := true, recurses := true, apart := false }
def GatePacketsSaid : Prop := gatePacketsRow.holds Try.pinned (OpenSpec.ofChange gatePacketsSpec)

/-- ITS FALSE NEIGHBOUR: 'it returns false'. Refute it at one input. -/
def gatePacketsWrong : ChangeSpec := { name := "gatePackets", fn := fun _ => fun
  | [d1, d2, d3, d4, d5] => { results := [.lit (.bool false)], args := [d1, d2, d3, d4, d5] }
  | _ => none }
def GatePacketsWrongFalsely : Prop := gatePacketsRow.holds Try.pinned (OpenSpec.ofChange gatePacketsWrong)

/-- 'spillwaylaw.GateUnpacks': WHATEVER THE INPUT: true; the input reads as it did. -/
def gateUnpacksSpec : ChangeSpec := { name := "gateUnpacks", fn := fun _ => fun
  | [d1, d2, d3, d4, d5] => { results := [.lit (.bool true)], args := [d1, d2, d3, d4, d5] }
  | _ => none }
def gateUnpacksRow : OpenClaim := { program := "ythpophgcmgdpjaa", sum := "ec85800b69ff127754cb307e651e5529b7ae7732eb13b3a2f78f5fde7ff751d2", func := "spillway/spillwaylaw.GateUnpacks", spec := "gateUnpacks", unfollowed := true, recurses := true, apart := false }
def GateUnpacksSaid : Prop := gateUnpacksRow.holds Try.pinned (OpenSpec.ofChange gateUnpacksSpec)

/-- ITS FALSE NEIGHBOUR: 'it returns false'. Refute it at one input. -/
def gateUnpacksWrong : ChangeSpec := { name := "gateUnpacks", fn := fun _ => fun
  | [d1, d2, d3, d4, d5] => { results := [.lit (.bool false)], args := [d1, d2, d3, d4, d5] }
  | _ => none }
def GateUnpacksWrongFalsely : Prop := gateUnpacksRow.holds Try.pinned (OpenSpec.ofChange gateUnpacksWrong)

/-- 'spillwaylaw.ConnBegins': WHATEVER THE INPUT: true; the input reads as it did. -/
def connBeginsSpec : ChangeSpec := { name := "connBegins", fn := fun _ => fun
  | [d1, d2, d3] => { results := [.lit (.bool true)], args := [d1, d2, d3] }
  | _ => none }
def connBeginsRow : OpenClaim := { program := "ythpophgcmgdpjaa", sum := "ec85800b69ff127754cb307e651e5529b7ae7732eb13b3a2f78f5fde7ff751d2", func := "spillway/spillwaylaw.ConnBegins", spec := "connBegins", apart := false }
def ConnBeginsSaid : Prop := connBeginsRow.holds Try.pinned (OpenSpec.ofChange connBeginsSpec)

/-- ITS FALSE NEIGHBOUR: 'it returns false'. Refute it at one input. -/
def connBeginsWrong : ChangeSpec := { name := "connBegins", fn := fun _ => fun
  | [d1, d2, d3] => { results := [.lit (.bool false)], args := [d1, d2, d3] }
  | _ => none }
def ConnBeginsWrongFalsely : Prop := connBeginsRow.holds Try.pinned (OpenSpec.ofChange connBeginsWrong)

/-- 'spillwaylaw.ConnOpens': WHATEVER THE INPUT: true; the input reads as it did. -/
def connOpensSpec : ChangeSpec := { name := "connOpens", fn := fun _ => fun
  | [d] => { results := [.lit (.bool true)], args := [d] }
  | _ => none }
def connOpensRow : OpenClaim := { program := "ythpophgcmgdpjaa", sum := "ec85800b69ff127754cb307e651e5529b7ae7732eb13b3a2f78f5fde7ff751d2", func := "spillway/spillwaylaw.ConnOpens", spec := "connOpens", apart := false }
def ConnOpensSaid : Prop := connOpensRow.holds Try.pinned (OpenSpec.ofChange connOpensSpec)

/-- ITS FALSE NEIGHBOUR: 'it returns false'. Refute it at one input. -/
def connOpensWrong : ChangeSpec := { name := "connOpens", fn := fun _ => fun
  | [d] => { results := [.lit (.bool false)], args := [d] }
  | _ => none }
def ConnOpensWrongFalsely : Prop := connOpensRow.holds Try.pinned (OpenSpec.ofChange connOpensWrong)

/-- 'spillwaylaw.ConnWrites': WHATEVER THE INPUT: true; the input reads as it did. -/
def connWritesSpec : ChangeSpec := { name := "connWrites", fn := fun _ => fun
  | [d1, d2, d3, d4] => { results := [.lit (.bool true)], args := [d1, d2, d3, d4] }
  | _ => none }
def connWritesRow : OpenClaim := { program := "ythpophgcmgdpjaa", sum := "ec85800b69ff127754cb307e651e5529b7ae7732eb13b3a2f78f5fde7ff751d2", func := "spillway/spillwaylaw.ConnWrites", spec := "connWrites", apart := false }
def ConnWritesSaid : Prop := connWritesRow.holds Try.pinned (OpenSpec.ofChange connWritesSpec)

/-- ITS FALSE NEIGHBOUR: 'it returns false'. Refute it at one input. -/
def connWritesWrong : ChangeSpec := { name := "connWrites", fn := fun _ => fun
  | [d1, d2, d3, d4] => { results := [.lit (.bool false)], args := [d1, d2, d3, d4] }
  | _ => none }
def ConnWritesWrongFalsely : Prop := connWritesRow.holds Try.pinned (OpenSpec.ofChange connWritesWrong)

/- THE SECOND FORM. 'bulk': how many values and letters a reading holds, each counted each time it is reached (what is shared counts as often as it is met; a slice's spare places count too). A statement '..UptoSaid' is the law's where the arguments, and the package variables that the reading takes, are together of bulk at most 1048576: NARROWER than '..Said'. Prove '..Said' where nothing that the law and all that it calls make is longer than what came in: it says more and counts as full. Else prove '..UptoSaid'. A law counts once. -/
mutual
def uptoBulk {H : Type} : DataW H → Nat
  | .lit (.string bytes) => bytes.length + 1
  | .lit _ => 1
  | .nil => 1
  | .ptr d => uptoBulk d + 1
  | .slice elems spare => uptoBulkAll elems + uptoBulkAll spare + 1
  | .agg parts => uptoBulkAll parts + 1
  | .iface _ d => uptoBulk d + 1
  | .map entries => uptoBulkEntries entries + 1
  | .held _ => 1
def uptoBulkAll {H : Type} : List (DataW H) → Nat
  | [] => 0
  | d :: r => uptoBulk d + uptoBulkAll r
def uptoBulkEntries {H : Type} : List (Lit × DataW H) → Nat
  | [] => 0
  | x :: r => uptoBulkEntry x + uptoBulkEntries r
def uptoBulkEntry {H : Type} : Lit × DataW H → Nat
  | (.string bytes, d) => bytes.length + uptoBulk d + 1
  | (_, d) => uptoBulk d + 1
 end
def uptoSmall : (H : Type) → List (DataW H) → Bool := fun _ ds => decide (uptoBulkAll ds ≤ 1048576)
def OpenSpec.upto (s : _root_.Go.ChangeSpec) : _root_.Go.OpenSpec := { _root_.Go.OpenSpec.ofChange s with cond := some uptoSmall }

/-- 'spillwaylaw.FieldsDecodes', WHERE WHAT IT READS IS OF BULK AT MOST 1048576: true; the input reads as it did. -/
def fieldsDecodesUptoRow : OpenClaim := { program := "ythpophgcmgdpjaa", sum := "ec85800b69ff127754cb307e651e5529b7ae7732eb13b3a2f78f5fde7ff751d2", func := "spillway/spillwaylaw.FieldsDecodes", spec := "fieldsDecodes", apart := false, narrowed := true }
def FieldsDecodesUptoSaid : Prop := fieldsDecodesUptoRow.holds Try.pinned (OpenSpec.upto fieldsDecodesSpec)

/-- 'spillwaylaw.FieldsEncodes', WHERE WHAT IT READS IS OF BULK AT MOST 1048576: true; the input reads as it did. -/
def fieldsEncodesUptoRow : OpenClaim := { program := "ythpophgcmgdpjaa", sum := "ec85800b69ff127754cb307e651e5529b7ae7732eb13b3a2f78f5fde7ff751d2", func := "spillway/spillwaylaw.FieldsEncodes", spec := "fieldsEncodes", apart := false, narrowed := true }
def FieldsEncodesUptoSaid : Prop := fieldsEncodesUptoRow.holds Try.pinned (OpenSpec.upto fieldsEncodesSpec)

/-- 'spillwaylaw.PrefixEncodes', WHERE WHAT IT READS IS OF BULK AT MOST 1048576: true; the input reads as it did. -/
def prefixEncodesUptoRow : OpenClaim := { program := "ythpophgcmgdpjaa", sum := "ec85800b69ff127754cb307e651e5529b7ae7732eb13b3a2f78f5fde7ff751d2", func := "spillway/spillwaylaw.PrefixEncodes", spec := "prefixEncodes", apart := false, narrowed := true }
def PrefixEncodesUptoSaid : Prop := prefixEncodesUptoRow.holds Try.pinned (OpenSpec.upto prefixEncodesSpec)

/-- 'spillwaylaw.RequestWrites', WHERE WHAT IT READS IS OF BULK AT MOST 1048576: true; the input reads as it did. -/
def requestWritesUptoRow : OpenClaim := { program := "ythpophgcmgdpjaa", sum := "ec85800b69ff127754cb307e651e5529b7ae7732eb13b3a2f78f5fde7ff751d2", func := "spillway/spillwaylaw.RequestWrites", spec := "requestWrites", apart := false, narrowed := true }
def RequestWritesUptoSaid : Prop := requestWritesUptoRow.holds Try.pinned (OpenSpec.upto requestWritesSpec)

/-- 'spillwaylaw.RequestFeeds', WHERE WHAT IT READS IS OF BULK AT MOST 1048576: true; the input reads as it did. -/
def requestFeedsUptoRow : OpenClaim := { program := "ythpophgcmgdpjaa", sum := "ec85800b69ff127754cb307e651e5529b7ae7732eb13b3a2f78f5fde7ff751d2", func := "spillway/spillwaylaw.RequestFeeds", spec := "requestFeeds", apart := false, narrowed := true }
def RequestFeedsUptoSaid : Prop := requestFeedsUptoRow.holds Try.pinned (OpenSpec.upto requestFeedsSpec)

/-- 'spillwaylaw.GatherPuts', WHERE WHAT IT READS IS OF BULK AT MOST 1048576: true; the input reads as it did. -/
def gatherPutsUptoRow : OpenClaim := { program := "ythpophgcmgdpjaa", sum := "ec85800b69ff127754cb307e651e5529b7ae7732eb13b3a2f78f5fde7ff751d2", func := "spillway/spillwaylaw.GatherPuts", spec := "gatherPuts", unfollowed := true, recurses := true, apart := false, narrowed := true }
def GatherPutsUptoSaid : Prop := gatherPutsUptoRow.holds Try.pinned (OpenSpec.upto gatherPutsSpec)

/-- 'spillwaylaw.GateChecks', WHERE WHAT IT READS IS OF BULK AT MOST 1048576: true; the input reads as it did. -/
def gateChecksUptoRow : OpenClaim := { program := "ythpophgcmgdpjaa", sum := "ec85800b69ff127754cb307e651e5529b7ae7732eb13b3a2f78f5fde7ff751d2", func := "spillway/spillwaylaw.GateChecks", spec := "gateChecks", apart := false, narrowed := true }
def GateChecksUptoSaid : Prop := gateChecksUptoRow.holds Try.pinned (OpenSpec.upto gateChecksSpec)

/-- 'spillwaylaw.GatePackets', WHERE WHAT IT READS IS OF BULK AT MOST 1048576: true; the input reads as it did. -/
def gatePacketsUptoRow : OpenClaim := { program := "ythpophgcmgdpjaa", sum := "ec85800b69ff127754cb307e651e5529b7ae7732eb13b3a2f78f5fde7ff751d2", func := "spillway/spillwaylaw.GatePackets", spec := "gatePackets", unfollowed := true, recurses := true, apart := false, narrowed := true }
def GatePacketsUptoSaid : Prop := gatePacketsUptoRow.holds Try.pinned (OpenSpec.upto gatePacketsSpec)

/-- 'spillwaylaw.GateUnpacks', WHERE WHAT IT READS IS OF BULK AT MOST 1048576: true; the input reads as it did. -/
def gateUnpacksUptoRow : OpenClaim := { program := "ythpophgcmgdpjaa", sum := "ec85800b69ff127754cb307e651e5529b7ae7732eb13b3a2f78f5fde7ff751d2", func := "spillway/spillwaylaw.GateUnpacks", spec := "gateUnpacks", unfollowed := true, recurses := true, apart := false, narrowed := true }
def GateUnpacksUptoSaid : Prop := gateUnpacksUptoRow.holds Try.pinned (OpenSpec.upto gateUnpacksSpec)

/-- 'spillwaylaw.ConnBegins', WHERE WHAT IT READS IS OF BULK AT MOST 1048576: true; the input reads as it did. -/
def connBeginsUptoRow : OpenClaim := { program := "ythpophgcmgdpjaa", sum := "ec85800b69ff127754cb307e651e5529b7ae7732eb13b3a2f78f5fde7ff751d2", func := "spillway/spillwaylaw.ConnBegins", spec := "connBegins", apart := false, narrowed := true }
def ConnBeginsUptoSaid : Prop := connBeginsUptoRow.holds Try.pinned (OpenSpec.upto connBeginsSpec)

/-- 'spillwaylaw.ConnOpens', WHERE WHAT IT READS IS OF BULK AT MOST 1048576: true; the input reads as it did. -/
def connOpensUptoRow : OpenClaim := { program := "ythpophgcmgdpjaa", sum := "ec85800b69ff127754cb307e651e5529b7ae7732eb13b3a2f78f5fde7ff751d2", func := "spillway/spillwaylaw.ConnOpens", spec := "connOpens", apart := false, narrowed := true }
def ConnOpensUptoSaid : Prop := connOpensUptoRow.holds Try.pinned (OpenSpec.upto connOpensSpec)

/-- 'spillwaylaw.ConnWrites', WHERE WHAT IT READS IS OF BULK AT MOST 1048576: true; the input reads as it did. -/
def connWritesUptoRow : OpenClaim := { program := "ythpophgcmgdpjaa", sum := "ec85800b69ff127754cb307e651e5529b7ae7732eb13b3a2f78f5fde7ff751d2", func := "spillway/spillwaylaw.ConnWrites", spec := "connWrites", apart := false, narrowed := true }
def ConnWritesUptoSaid : Prop := connWritesUptoRow.holds Try.pinned (OpenSpec.upto connWritesSpec)

end Rows
end Go.Proofs.Ythpophgcmgdpjaa
