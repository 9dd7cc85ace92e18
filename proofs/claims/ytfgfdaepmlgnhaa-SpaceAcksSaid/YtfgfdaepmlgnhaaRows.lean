/-
  No cell of these rows narrows 'for every input' (looked for: loops, veiled, ifaces, maps, wideKeys, modest, calm, conditions, laid).
  DERIVED. THE GIVEN ROWS OF THIS SEAT. 12 by the template 'for every input the law returns true; each argument reads behind the call as it read before'; 0 by the template 'total and deterministic' (their statements: YtfgfdaepmlgnhaaTotals.lean).
  GIVEN WITH THE SEED: the statements are not yours to turn. If you find one false, say at which input.
  Laid BY PROGRAM, IN A SANDBOX (cutbox-rows.mjs): the forced cells as the released guide's own fill.sh prints them over the translation 30cf6c26b3e1d2a7… (all of the seat's roots in one cut). By AI agents, Wed Nov 11 2026. No macro, syntax, notation, axiom, sorry.
-/
import Derived.Test.YtfgfdaepmlgnhaaChecked
import GoSem.Claim
import GoSem.ClaimJoined
import GoSem.ClaimMapViews
import Derived.JoinedTies
import Derived.KernelRfl
namespace Go.Proofs.Ytfgfdaepmlgnhaa
/- THE CELL 'sum', in the pinned program and in every row, IS THE sha256 OF THE DUMP (.gsa) THAT YtfgfdaepmlgnhaaProg.lean LOADS. Nothing in Lean hashes anything: it is a label: what it is worth is what the hold of that sum in a sandbox is worth. -/
noncomputable def Try.pinned : Pinned := { name := "ytfgfdaepmlgnhaa", sum := "30cf6c26b3e1d2a738a26422ebccabfe082f13ce5ff03720a8fd8ab75c7ed8c5", checked := Try.checked }
namespace Rows
def none {H : Type} : Left H := { results := [], args := [] }

/-- 'spillwaylaw.SenderPieces': WHATEVER THE INPUT: true; the input reads as it did. -/
def senderPiecesSpec : ChangeSpec := { name := "senderPieces", fn := fun _ => fun
  | [d1, d2, d3] => { results := [.lit (.bool true)], args := [d1, d2, d3] }
  | _ => none }
def senderPiecesRow : OpenClaim := { program := "ytfgfdaepmlgnhaa", sum := "30cf6c26b3e1d2a738a26422ebccabfe082f13ce5ff03720a8fd8ab75c7ed8c5", func := "spillway/spillwaylaw.SenderPieces", spec := "senderPieces", apart := false }
def SenderPiecesSaid : Prop := senderPiecesRow.holds Try.pinned (OpenSpec.ofChange senderPiecesSpec)

/-- ITS FALSE NEIGHBOUR: 'it returns false'. Refute it at one input. -/
def senderPiecesWrong : ChangeSpec := { name := "senderPieces", fn := fun _ => fun
  | [d1, d2, d3] => { results := [.lit (.bool false)], args := [d1, d2, d3] }
  | _ => none }
def SenderPiecesWrongFalsely : Prop := senderPiecesRow.holds Try.pinned (OpenSpec.ofChange senderPiecesWrong)

/-- 'spillwaylaw.SpaceAcks': WHATEVER THE INPUT: true; the input reads as it did. -/
def spaceAcksSpec : ChangeSpec := { name := "spaceAcks", fn := fun _ => fun
  | [d1, d2] => { results := [.lit (.bool true)], args := [d1, d2] }
  | _ => none }
def spaceAcksRow : OpenClaim := { program := "ytfgfdaepmlgnhaa", sum := "30cf6c26b3e1d2a738a26422ebccabfe082f13ce5ff03720a8fd8ab75c7ed8c5", func := "spillway/spillwaylaw.SpaceAcks", spec := "spaceAcks", unfollowed := true, recurses := true, apart := false }
def SpaceAcksSaid : Prop := spaceAcksRow.holds Try.pinned (OpenSpec.ofChange spaceAcksSpec)

/-- ITS FALSE NEIGHBOUR: 'it returns false'. Refute it at one input. -/
def spaceAcksWrong : ChangeSpec := { name := "spaceAcks", fn := fun _ => fun
  | [d1, d2] => { results := [.lit (.bool false)], args := [d1, d2] }
  | _ => none }
def SpaceAcksWrongFalsely : Prop := spaceAcksRow.holds Try.pinned (OpenSpec.ofChange spaceAcksWrong)

/-- 'spillwaylaw.FrameEncodes': WHATEVER THE INPUT: true; the input reads as it did. -/
def frameEncodesSpec : ChangeSpec := { name := "frameEncodes", fn := fun _ => fun
  | [d] => { results := [.lit (.bool true)], args := [d] }
  | _ => none }
def frameEncodesRow : OpenClaim := { program := "ytfgfdaepmlgnhaa", sum := "30cf6c26b3e1d2a738a26422ebccabfe082f13ce5ff03720a8fd8ab75c7ed8c5", func := "spillway/spillwaylaw.FrameEncodes", spec := "frameEncodes", apart := false }
def FrameEncodesSaid : Prop := frameEncodesRow.holds Try.pinned (OpenSpec.ofChange frameEncodesSpec)

/-- ITS FALSE NEIGHBOUR: 'it returns false'. Refute it at one input. -/
def frameEncodesWrong : ChangeSpec := { name := "frameEncodes", fn := fun _ => fun
  | [d] => { results := [.lit (.bool false)], args := [d] }
  | _ => none }
def FrameEncodesWrongFalsely : Prop := frameEncodesRow.holds Try.pinned (OpenSpec.ofChange frameEncodesWrong)

/-- 'spillwaylaw.FieldsApplies': WHATEVER THE INPUT: true; the input reads as it did. -/
def fieldsAppliesSpec : ChangeSpec := { name := "fieldsApplies", fn := fun _ => fun
  | [d1, d2] => { results := [.lit (.bool true)], args := [d1, d2] }
  | _ => none }
def fieldsAppliesRow : OpenClaim := { program := "ytfgfdaepmlgnhaa", sum := "30cf6c26b3e1d2a738a26422ebccabfe082f13ce5ff03720a8fd8ab75c7ed8c5", func := "spillway/spillwaylaw.FieldsApplies", spec := "fieldsApplies", apart := false }
def FieldsAppliesSaid : Prop := fieldsAppliesRow.holds Try.pinned (OpenSpec.ofChange fieldsAppliesSpec)

/-- ITS FALSE NEIGHBOUR: 'it returns false'. Refute it at one input. -/
def fieldsAppliesWrong : ChangeSpec := { name := "fieldsApplies", fn := fun _ => fun
  | [d1, d2] => { results := [.lit (.bool false)], args := [d1, d2] }
  | _ => none }
def FieldsAppliesWrongFalsely : Prop := fieldsAppliesRow.holds Try.pinned (OpenSpec.ofChange fieldsAppliesWrong)

/-- 'spillwaylaw.FrameDecodes': WHATEVER THE INPUT: true; the input reads as it did. -/
def frameDecodesSpec : ChangeSpec := { name := "frameDecodes", fn := fun _ => fun
  | [d] => { results := [.lit (.bool true)], args := [d] }
  | _ => none }
def frameDecodesRow : OpenClaim := { program := "ytfgfdaepmlgnhaa", sum := "30cf6c26b3e1d2a738a26422ebccabfe082f13ce5ff03720a8fd8ab75c7ed8c5", func := "spillway/spillwaylaw.FrameDecodes", spec := "frameDecodes", unfollowed := true, recurses := true, apart := false }
def FrameDecodesSaid : Prop := frameDecodesRow.holds Try.pinned (OpenSpec.ofChange frameDecodesSpec)

/-- ITS FALSE NEIGHBOUR: 'it returns false'. Refute it at one input. -/
def frameDecodesWrong : ChangeSpec := { name := "frameDecodes", fn := fun _ => fun
  | [d] => { results := [.lit (.bool false)], args := [d] }
  | _ => none }
def FrameDecodesWrongFalsely : Prop := frameDecodesRow.holds Try.pinned (OpenSpec.ofChange frameDecodesWrong)

/-- 'spillwaylaw.FieldsDecodes': WHATEVER THE INPUT: true; the input reads as it did. -/
def fieldsDecodesSpec : ChangeSpec := { name := "fieldsDecodes", fn := fun _ => fun
  | [d1, d2] => { results := [.lit (.bool true)], args := [d1, d2] }
  | _ => none }
def fieldsDecodesRow : OpenClaim := { program := "ytfgfdaepmlgnhaa", sum := "30cf6c26b3e1d2a738a26422ebccabfe082f13ce5ff03720a8fd8ab75c7ed8c5", func := "spillway/spillwaylaw.FieldsDecodes", spec := "fieldsDecodes", apart := false }
def FieldsDecodesSaid : Prop := fieldsDecodesRow.holds Try.pinned (OpenSpec.ofChange fieldsDecodesSpec)

/-- ITS FALSE NEIGHBOUR: 'it returns false'. Refute it at one input. -/
def fieldsDecodesWrong : ChangeSpec := { name := "fieldsDecodes", fn := fun _ => fun
  | [d1, d2] => { results := [.lit (.bool false)], args := [d1, d2] }
  | _ => none }
def FieldsDecodesWrongFalsely : Prop := fieldsDecodesRow.holds Try.pinned (OpenSpec.ofChange fieldsDecodesWrong)

/-- 'spillwaylaw.GateChecks': WHATEVER THE INPUT: true; the input reads as it did. -/
def gateChecksSpec : ChangeSpec := { name := "gateChecks", fn := fun _ => fun
  | [d1, d2, d3] => { results := [.lit (.bool true)], args := [d1, d2, d3] }
  | _ => none }
def gateChecksRow : OpenClaim := { program := "ytfgfdaepmlgnhaa", sum := "30cf6c26b3e1d2a738a26422ebccabfe082f13ce5ff03720a8fd8ab75c7ed8c5", func := "spillway/spillwaylaw.GateChecks", spec := "gateChecks", apart := false }
def GateChecksSaid : Prop := gateChecksRow.holds Try.pinned (OpenSpec.ofChange gateChecksSpec)

/-- ITS FALSE NEIGHBOUR: 'it returns false'. Refute it at one input. -/
def gateChecksWrong : ChangeSpec := { name := "gateChecks", fn := fun _ => fun
  | [d1, d2, d3] => { results := [.lit (.bool false)], args := [d1, d2, d3] }
  | _ => none }
def GateChecksWrongFalsely : Prop := gateChecksRow.holds Try.pinned (OpenSpec.ofChange gateChecksWrong)

/-- 'spillwaylaw.FieldsEncodes': WHATEVER THE INPUT: true; the input reads as it did. -/
def fieldsEncodesSpec : ChangeSpec := { name := "fieldsEncodes", fn := fun _ => fun
  | [d1, d2, d3] => { results := [.lit (.bool true)], args := [d1, d2, d3] }
  | _ => none }
def fieldsEncodesRow : OpenClaim := { program := "ytfgfdaepmlgnhaa", sum := "30cf6c26b3e1d2a738a26422ebccabfe082f13ce5ff03720a8fd8ab75c7ed8c5", func := "spillway/spillwaylaw.FieldsEncodes", spec := "fieldsEncodes", apart := false }
def FieldsEncodesSaid : Prop := fieldsEncodesRow.holds Try.pinned (OpenSpec.ofChange fieldsEncodesSpec)

/-- ITS FALSE NEIGHBOUR: 'it returns false'. Refute it at one input. -/
def fieldsEncodesWrong : ChangeSpec := { name := "fieldsEncodes", fn := fun _ => fun
  | [d1, d2, d3] => { results := [.lit (.bool false)], args := [d1, d2, d3] }
  | _ => none }
def FieldsEncodesWrongFalsely : Prop := fieldsEncodesRow.holds Try.pinned (OpenSpec.ofChange fieldsEncodesWrong)

/-- 'spillwaylaw.FrameAlls': WHATEVER THE INPUT: true; the input reads as it did. -/
def frameAllsSpec : ChangeSpec := { name := "frameAlls", fn := fun _ => fun
  | [d] => { results := [.lit (.bool true)], args := [d] }
  | _ => none }
def frameAllsRow : OpenClaim := { program := "ytfgfdaepmlgnhaa", sum := "30cf6c26b3e1d2a738a26422ebccabfe082f13ce5ff03720a8fd8ab75c7ed8c5", func := "spillway/spillwaylaw.FrameAlls", spec := "frameAlls", unfollowed := true, recurses := true, apart := false }
def FrameAllsSaid : Prop := frameAllsRow.holds Try.pinned (OpenSpec.ofChange frameAllsSpec)

/-- ITS FALSE NEIGHBOUR: 'it returns false'. Refute it at one input. -/
def frameAllsWrong : ChangeSpec := { name := "frameAlls", fn := fun _ => fun
  | [d] => { results := [.lit (.bool false)], args := [d] }
  | _ => none }
def FrameAllsWrongFalsely : Prop := frameAllsRow.holds Try.pinned (OpenSpec.ofChange frameAllsWrong)

/-- 'spillwaylaw.GatherPuts': WHATEVER THE INPUT: true; the input reads as it did. -/
def gatherPutsSpec : ChangeSpec := { name := "gatherPuts", fn := fun _ => fun
  | [d1, d2, d3, d4] => { results := [.lit (.bool true)], args := [d1, d2, d3, d4] }
  | _ => none }
def gatherPutsRow : OpenClaim := { program := "ytfgfdaepmlgnhaa", sum := "30cf6c26b3e1d2a738a26422ebccabfe082f13ce5ff03720a8fd8ab75c7ed8c5", func := "spillway/spillwaylaw.GatherPuts", spec := "gatherPuts", unfollowed := true, recurses := true, apart := false }
def GatherPutsSaid : Prop := gatherPutsRow.holds Try.pinned (OpenSpec.ofChange gatherPutsSpec)

/-- ITS FALSE NEIGHBOUR: 'it returns false'. Refute it at one input. -/
def gatherPutsWrong : ChangeSpec := { name := "gatherPuts", fn := fun _ => fun
  | [d1, d2, d3, d4] => { results := [.lit (.bool false)], args := [d1, d2, d3, d4] }
  | _ => none }
def GatherPutsWrongFalsely : Prop := gatherPutsRow.holds Try.pinned (OpenSpec.ofChange gatherPutsWrong)

/-- 'spillwaylaw.RangesAdds': WHATEVER THE INPUT: true; the input reads as it did. -/
def rangesAddsSpec : ChangeSpec := { name := "rangesAdds", fn := fun _ => fun
  | [d1, d2] => { results := [.lit (.bool true)], args := [d1, d2] }
  | _ => none }
def rangesAddsRow : OpenClaim := { program := "ytfgfdaepmlgnhaa", sum := "30cf6c26b3e1d2a738a26422ebccabfe082f13ce5ff03720a8fd8ab75c7ed8c5", func := "spillway/spillwaylaw.RangesAdds", spec := "rangesAdds", inPlace := ["internal/reflectlite.ValueOf", "internal/reflectlite.Swapper", "(internal/reflectlite.Value).Len"], unfollowed := true, recurses := true, apart := false }
def RangesAddsSaid : Prop := rangesAddsRow.holds Try.pinned (OpenSpec.ofChange rangesAddsSpec)

/-- ITS FALSE NEIGHBOUR: 'it returns false'. Refute it at one input. -/
def rangesAddsWrong : ChangeSpec := { name := "rangesAdds", fn := fun _ => fun
  | [d1, d2] => { results := [.lit (.bool false)], args := [d1, d2] }
  | _ => none }
def RangesAddsWrongFalsely : Prop := rangesAddsRow.holds Try.pinned (OpenSpec.ofChange rangesAddsWrong)

/-- 'spillwaylaw.RangesNotes': WHATEVER THE INPUT: true; the input reads as it did. -/
def rangesNotesSpec : ChangeSpec := { name := "rangesNotes", fn := fun _ => fun
  | [d1, d2] => { results := [.lit (.bool true)], args := [d1, d2] }
  | _ => none }
def rangesNotesRow : OpenClaim := { program := "ytfgfdaepmlgnhaa", sum := "30cf6c26b3e1d2a738a26422ebccabfe082f13ce5ff03720a8fd8ab75c7ed8c5", func := "spillway/spillwaylaw.RangesNotes", spec := "rangesNotes", inPlace := ["internal/reflectlite.ValueOf", "internal/reflectlite.Swapper", "(internal/reflectlite.Value).Len"], unfollowed := true, recurses := true, apart := false }
def RangesNotesSaid : Prop := rangesNotesRow.holds Try.pinned (OpenSpec.ofChange rangesNotesSpec)

/-- ITS FALSE NEIGHBOUR: 'it returns false'. Refute it at one input. -/
def rangesNotesWrong : ChangeSpec := { name := "rangesNotes", fn := fun _ => fun
  | [d1, d2] => { results := [.lit (.bool false)], args := [d1, d2] }
  | _ => none }
def RangesNotesWrongFalsely : Prop := rangesNotesRow.holds Try.pinned (OpenSpec.ofChange rangesNotesWrong)

/- THE SECOND FORM. 'bulk': how many values and letters a reading holds, each counted each time it is reached (what is shared counts as often as it is met; a slice's spare places count too). A statement '..UptoSaid' is the law's where the arguments, and the package variables that the reading takes, are together of bulk at most 1048576: NARROWER than '..Said'. Prove '..Said' where nothing that the law and all that it calls make is longer than what came in: it says more and counts as full. Else prove '..UptoSaid'. A law counts once. -/
mutual
def uptoBulk {H : Type} : DataW H → Nat
  | .lit (.string bytes) => bytes.length + 1
  | .lit _ => 1
  | .nil => 1
  | .ptr d => uptoBulk d + 1
  | .slice elems spare => uptoBulkAll elems + uptoBulkAll spare + 1
  | .agg parts => uptoBulkAll parts + 1
  | .iface _ d => uptoBulk d + 1
  | .map entries => uptoBulkEntries entries + 1
  | .held _ => 1
def uptoBulkAll {H : Type} : List (DataW H) → Nat
  | [] => 0
  | d :: r => uptoBulk d + uptoBulkAll r
def uptoBulkEntries {H : Type} : List (Lit × DataW H) → Nat
  | [] => 0
  | x :: r => uptoBulkEntry x + uptoBulkEntries r
def uptoBulkEntry {H : Type} : Lit × DataW H → Nat
  | (.string bytes, d) => bytes.length + uptoBulk d + 1
  | (_, d) => uptoBulk d + 1
 end
def uptoSmall : (H : Type) → List (DataW H) → Bool := fun _ ds => decide (uptoBulkAll ds ≤ 1048576)
def OpenSpec.upto (s : _root_.Go.ChangeSpec) : _root_.Go.OpenSpec := { _root_.Go.OpenSpec.ofChange s with cond := some uptoSmall }

/-- 'spillwaylaw.SenderPieces', WHERE WHAT IT READS IS OF BULK AT MOST 1048576: true; the input reads as it did. -/
def senderPiecesUptoRow : OpenClaim := { program := "ytfgfdaepmlgnhaa", sum := "30cf6c26b3e1d2a738a26422ebccabfe082f13ce5ff03720a8fd8ab75c7ed8c5", func := "spillway/spillwaylaw.SenderPieces", spec := "senderPieces", apart := false, narrowed := true }
def SenderPiecesUptoSaid : Prop := senderPiecesUptoRow.holds Try.pinned (OpenSpec.upto senderPiecesSpec)

/-- 'spillwaylaw.SpaceAcks', WHERE WHAT IT READS IS OF BULK AT MOST 1048576: true; the input reads as it did. -/
def spaceAcksUptoRow : OpenClaim := { program := "ytfgfdaepmlgnhaa", sum := "30cf6c26b3e1d2a738a26422ebccabfe082f13ce5ff03720a8fd8ab75c7ed8c5", func := "spillway/spillwaylaw.SpaceAcks", spec := "spaceAcks", unfollowed := true, recurses := true, apart := false, narrowed := true }
def SpaceAcksUptoSaid : Prop := spaceAcksUptoRow.holds Try.pinned (OpenSpec.upto spaceAcksSpec)

/-- 'spillwaylaw.FrameEncodes', WHERE WHAT IT READS IS OF BULK AT MOST 1048576: true; the input reads as it did. -/
def frameEncodesUptoRow : OpenClaim := { program := "ytfgfdaepmlgnhaa", sum := "30cf6c26b3e1d2a738a26422ebccabfe082f13ce5ff03720a8fd8ab75c7ed8c5", func := "spillway/spillwaylaw.FrameEncodes", spec := "frameEncodes", apart := false, narrowed := true }
def FrameEncodesUptoSaid : Prop := frameEncodesUptoRow.holds Try.pinned (OpenSpec.upto frameEncodesSpec)

/-- 'spillwaylaw.FieldsApplies', WHERE WHAT IT READS IS OF BULK AT MOST 1048576: true; the input reads as it did. -/
def fieldsAppliesUptoRow : OpenClaim := { program := "ytfgfdaepmlgnhaa", sum := "30cf6c26b3e1d2a738a26422ebccabfe082f13ce5ff03720a8fd8ab75c7ed8c5", func := "spillway/spillwaylaw.FieldsApplies", spec := "fieldsApplies", apart := false, narrowed := true }
def FieldsAppliesUptoSaid : Prop := fieldsAppliesUptoRow.holds Try.pinned (OpenSpec.upto fieldsAppliesSpec)

/-- 'spillwaylaw.FrameDecodes', WHERE WHAT IT READS IS OF BULK AT MOST 1048576: true; the input reads as it did. -/
def frameDecodesUptoRow : OpenClaim := { program := "ytfgfdaepmlgnhaa", sum := "30cf6c26b3e1d2a738a26422ebccabfe082f13ce5ff03720a8fd8ab75c7ed8c5", func := "spillway/spillwaylaw.FrameDecodes", spec := "frameDecodes", unfollowed := true, recurses := true, apart := false, narrowed := true }
def FrameDecodesUptoSaid : Prop := frameDecodesUptoRow.holds Try.pinned (OpenSpec.upto frameDecodesSpec)

/-- 'spillwaylaw.FieldsDecodes', WHERE WHAT IT READS IS OF BULK AT MOST 1048576: true; the input reads as it did. -/
def fieldsDecodesUptoRow : OpenClaim := { program := "ytfgfdaepmlgnhaa", sum := "30cf6c26b3e1d2a738a26422ebccabfe082f13ce5ff03720a8fd8ab75c7ed8c5", func := "spillway/spillwaylaw.FieldsDecodes", spec := "fieldsDecodes", apart := false, narrowed := true }
def FieldsDecodesUptoSaid : Prop := fieldsDecodesUptoRow.holds Try.pinned (OpenSpec.upto fieldsDecodesSpec)

/-- 'spillwaylaw.GateChecks', WHERE WHAT IT READS IS OF BULK AT MOST 1048576: true; the input reads as it did. -/
def gateChecksUptoRow : OpenClaim := { program := "ytfgfdaepmlgnhaa", sum := "30cf6c26b3e1d2a738a26422ebccabfe082f13ce5ff03720a8fd8ab75c7ed8c5", func := "spillway/spillwaylaw.GateChecks", spec := "gateChecks", apart := false, narrowed := true }
def GateChecksUptoSaid : Prop := gateChecksUptoRow.holds Try.pinned (OpenSpec.upto gateChecksSpec)

/-- 'spillwaylaw.FieldsEncodes', WHERE WHAT IT READS IS OF BULK AT MOST 1048576: true; the input reads as it did. -/
def fieldsEncodesUptoRow : OpenClaim := { program := "ytfgfdaepmlgnhaa", sum := "30cf6c26b3e1d2a738a26422ebccabfe082f13ce5ff03720a8fd8ab75c7ed8c5", func := "spillway/spillwaylaw.FieldsEncodes", spec := "fieldsEncodes", apart := false, narrowed := true }
def FieldsEncodesUptoSaid : Prop := fieldsEncodesUptoRow.holds Try.pinned (OpenSpec.upto fieldsEncodesSpec)

/-- 'spillwaylaw.FrameAlls', WHERE WHAT IT READS IS OF BULK AT MOST 1048576: true; the input reads as it did. -/
def frameAllsUptoRow : OpenClaim := { program := "ytfgfdaepmlgnhaa", sum := "30cf6c26b3e1d2a738a26422ebccabfe082f13ce5ff03720a8fd8ab75c7ed8c5", func := "spillway/spillwaylaw.FrameAlls", spec := "frameAlls", unfollowed := true, recurses := true, apart := false, narrowed := true }
def FrameAllsUptoSaid : Prop := frameAllsUptoRow.holds Try.pinned (OpenSpec.upto frameAllsSpec)

/-- 'spillwaylaw.GatherPuts', WHERE WHAT IT READS IS OF BULK AT MOST 1048576: true; the input reads as it did. -/
def gatherPutsUptoRow : OpenClaim := { program := "ytfgfdaepmlgnhaa", sum := "30cf6c26b3e1d2a738a26422ebccabfe082f13ce5ff03720a8fd8ab75c7ed8c5", func := "spillway/spillwaylaw.GatherPuts", spec := "gatherPuts", unfollowed := true, recurses := true, apart := false, narrowed := true }
def GatherPutsUptoSaid : Prop := gatherPutsUptoRow.holds Try.pinned (OpenSpec.upto gatherPutsSpec)

/-- 'spillwaylaw.RangesAdds', WHERE WHAT IT READS IS OF BULK AT MOST 1048576: true; the input reads as it did. -/
def rangesAddsUptoRow : OpenClaim := { program := "ytfgfdaepmlgnhaa", sum := "30cf6c26b3e1d2a738a26422ebccabfe082f13ce5ff03720a8fd8ab75c7ed8c5", func := "spillway/spillwaylaw.RangesAdds", spec := "rangesAdds", inPlace := ["internal/reflectlite.ValueOf", "internal/reflectlite.Swapper", "(internal/reflectlite.Value).Len"], unfollowed := true, recurses := true, apart := false, narrowed := true }
def RangesAddsUptoSaid : Prop := rangesAddsUptoRow.holds Try.pinned (OpenSpec.upto rangesAddsSpec)

/-- 'spillwaylaw.RangesNotes', WHERE WHAT IT READS IS OF BULK AT MOST 1048576: true; the input reads as it did. -/
def rangesNotesUptoRow : OpenClaim := { program := "ytfgfdaepmlgnhaa", sum := "30cf6c26b3e1d2a738a26422ebccabfe082f13ce5ff03720a8fd8ab75c7ed8c5", func := "spillway/spillwaylaw.RangesNotes", spec := "rangesNotes", inPlace := ["internal/reflectlite.ValueOf", "internal/reflectlite.Swapper", "(internal/reflectlite.Value).Len"], unfollowed := true, recurses := true, apart := false, narrowed := true }
def RangesNotesUptoSaid : Prop := rangesNotesUptoRow.holds Try.pinned (OpenSpec.upto rangesNotesSpec)

end Rows
end Go.Proofs.Ytfgfdaepmlgnhaa
