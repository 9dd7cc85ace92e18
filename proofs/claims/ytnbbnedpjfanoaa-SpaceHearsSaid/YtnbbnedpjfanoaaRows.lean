/-
  No cell of these rows narrows 'for every input' (looked for: loops, veiled, ifaces, maps, wideKeys, modest, calm, conditions, laid).
  DERIVED. THE GIVEN ROWS OF THIS SEAT. 11 by the template 'for every input the law returns true; each argument reads behind the call as it read before'; 0 by the template 'total and deterministic' (their statements: YtnbbnedpjfanoaaTotals.lean).
  GIVEN WITH THE SEED: the statements are not yours to turn. If you find one false, say at which input.
  Laid BY PROGRAM, IN A SANDBOX (cutbox-rows.mjs): the forced cells as the released guide's own fill.sh prints them over the translation ecd63302d65068c5… (all of the seat's roots in one cut). By AI agents, Wed Nov 11 2026. No macro, syntax, notation, axiom, sorry.
-/
import Derived.Test.YtnbbnedpjfanoaaChecked
import GoSem.Claim
import GoSem.ClaimJoined
import GoSem.ClaimMapViews
import Derived.JoinedTies
import Derived.KernelRfl
namespace Go.Proofs.Ytnbbnedpjfanoaa
/- THE CELL 'sum', in the pinned program and in every row, IS THE sha256 OF THE DUMP (.gsa) THAT YtnbbnedpjfanoaaProg.lean LOADS. Nothing in Lean hashes anything: it is a label: what it is worth is what the hold of that sum in a sandbox is worth. -/
noncomputable def Try.pinned : Pinned := { name := "ytnbbnedpjfanoaa", sum := "ecd63302d65068c5b884012683ee423d24273b83eff2032deb83481a040ac9be", checked := Try.checked }
namespace Rows
def none {H : Type} : Left H := { results := [], args := [] }

/-- 'spillwaylaw.FieldsApplies': WHATEVER THE INPUT: true; the input reads as it did. -/
def fieldsAppliesSpec : ChangeSpec := { name := "fieldsApplies", fn := fun _ => fun
  | [d1, d2] => { results := [.lit (.bool true)], args := [d1, d2] }
  | _ => none }
def fieldsAppliesRow : OpenClaim := { program := "ytnbbnedpjfanoaa", sum := "ecd63302d65068c5b884012683ee423d24273b83eff2032deb83481a040ac9be", func := "spillway/spillwaylaw.FieldsApplies", spec := "fieldsApplies", apart := false }
def FieldsAppliesSaid : Prop := fieldsAppliesRow.holds Try.pinned (OpenSpec.ofChange fieldsAppliesSpec)

/-- ITS FALSE NEIGHBOUR: 'it returns false'. Refute it at one input. -/
def fieldsAppliesWrong : ChangeSpec := { name := "fieldsApplies", fn := fun _ => fun
  | [d1, d2] => { results := [.lit (.bool false)], args := [d1, d2] }
  | _ => none }
def FieldsAppliesWrongFalsely : Prop := fieldsAppliesRow.holds Try.pinned (OpenSpec.ofChange fieldsAppliesWrong)

/-- 'spillwaylaw.FieldsDecodes': WHATEVER THE INPUT: true; the input reads as it did. -/
def fieldsDecodesSpec : ChangeSpec := { name := "fieldsDecodes", fn := fun _ => fun
  | [d1, d2] => { results := [.lit (.bool true)], args := [d1, d2] }
  | _ => none }
def fieldsDecodesRow : OpenClaim := { program := "ytnbbnedpjfanoaa", sum := "ecd63302d65068c5b884012683ee423d24273b83eff2032deb83481a040ac9be", func := "spillway/spillwaylaw.FieldsDecodes", spec := "fieldsDecodes", apart := false }
def FieldsDecodesSaid : Prop := fieldsDecodesRow.holds Try.pinned (OpenSpec.ofChange fieldsDecodesSpec)

/-- ITS FALSE NEIGHBOUR: 'it returns false'. Refute it at one input. -/
def fieldsDecodesWrong : ChangeSpec := { name := "fieldsDecodes", fn := fun _ => fun
  | [d1, d2] => { results := [.lit (.bool false)], args := [d1, d2] }
  | _ => none }
def FieldsDecodesWrongFalsely : Prop := fieldsDecodesRow.holds Try.pinned (OpenSpec.ofChange fieldsDecodesWrong)

/-- 'spillwaylaw.FieldsEncodes': WHATEVER THE INPUT: true; the input reads as it did. -/
def fieldsEncodesSpec : ChangeSpec := { name := "fieldsEncodes", fn := fun _ => fun
  | [d1, d2, d3] => { results := [.lit (.bool true)], args := [d1, d2, d3] }
  | _ => none }
def fieldsEncodesRow : OpenClaim := { program := "ytnbbnedpjfanoaa", sum := "ecd63302d65068c5b884012683ee423d24273b83eff2032deb83481a040ac9be", func := "spillway/spillwaylaw.FieldsEncodes", spec := "fieldsEncodes", apart := false }
def FieldsEncodesSaid : Prop := fieldsEncodesRow.holds Try.pinned (OpenSpec.ofChange fieldsEncodesSpec)

/-- ITS FALSE NEIGHBOUR: 'it returns false'. Refute it at one input. -/
def fieldsEncodesWrong : ChangeSpec := { name := "fieldsEncodes", fn := fun _ => fun
  | [d1, d2, d3] => { results := [.lit (.bool false)], args := [d1, d2, d3] }
  | _ => none }
def FieldsEncodesWrongFalsely : Prop := fieldsEncodesRow.holds Try.pinned (OpenSpec.ofChange fieldsEncodesWrong)

/-- 'spillwaylaw.RangesAdds': WHATEVER THE INPUT: true; the input reads as it did. -/
def rangesAddsSpec : ChangeSpec := { name := "rangesAdds", fn := fun _ => fun
  | [d1, d2] => { results := [.lit (.bool true)], args := [d1, d2] }
  | _ => none }
def rangesAddsRow : OpenClaim := { program := "ytnbbnedpjfanoaa", sum := "ecd63302d65068c5b884012683ee423d24273b83eff2032deb83481a040ac9be", func := "spillway/spillwaylaw.RangesAdds", spec := "rangesAdds", inPlace := ["internal/reflectlite.ValueOf", "internal/reflectlite.Swapper", "(internal/reflectlite.Value).Len"], unfollowed := true, recurses := true, apart := false }
def RangesAddsSaid : Prop := rangesAddsRow.holds Try.pinned (OpenSpec.ofChange rangesAddsSpec)

/-- ITS FALSE NEIGHBOUR: 'it returns false'. Refute it at one input. -/
def rangesAddsWrong : ChangeSpec := { name := "rangesAdds", fn := fun _ => fun
  | [d1, d2] => { results := [.lit (.bool false)], args := [d1, d2] }
  | _ => none }
def RangesAddsWrongFalsely : Prop := rangesAddsRow.holds Try.pinned (OpenSpec.ofChange rangesAddsWrong)

/-- 'spillwaylaw.RangesNotes': WHATEVER THE INPUT: true; the input reads as it did. -/
def rangesNotesSpec : ChangeSpec := { name := "rangesNotes", fn := fun _ => fun
  | [d1, d2] => { results := [.lit (.bool true)], args := [d1, d2] }
  | _ => none }
def rangesNotesRow : OpenClaim := { program := "ytnbbnedpjfanoaa", sum := "ecd63302d65068c5b884012683ee423d24273b83eff2032deb83481a040ac9be", func := "spillway/spillwaylaw.RangesNotes", spec := "rangesNotes", inPlace := ["internal/reflectlite.ValueOf", "internal/reflectlite.Swapper", "(internal/reflectlite.Value).Len"], unfollowed := true, recurses := true, apart := false }
def RangesNotesSaid : Prop := rangesNotesRow.holds Try.pinned (OpenSpec.ofChange rangesNotesSpec)

/-- ITS FALSE NEIGHBOUR: 'it returns false'. Refute it at one input. -/
def rangesNotesWrong : ChangeSpec := { name := "rangesNotes", fn := fun _ => fun
  | [d1, d2] => { results := [.lit (.bool false)], args := [d1, d2] }
  | _ => none }
def RangesNotesWrongFalsely : Prop := rangesNotesRow.holds Try.pinned (OpenSpec.ofChange rangesNotesWrong)

/-- 'spillwaylaw.SenderHears': WHATEVER THE INPUT: true; the input reads as it did. -/
def senderHearsSpec : ChangeSpec := { name := "senderHears", fn := fun _ => fun
  | [d1, d2, d3, d4] => { results := [.lit (.bool true)], args := [d1, d2, d3, d4] }
  | _ => none }
def senderHearsRow : OpenClaim := { program := "ytnbbnedpjfanoaa", sum := "ecd63302d65068c5b884012683ee423d24273b83eff2032deb83481a040ac9be", func := "spillway/spillwaylaw.SenderHears", spec := "senderHears", inPlace := ["internal/reflectlite.ValueOf", "internal/reflectlite.Swapper", "(internal/reflectlite.Value).Len"], unfollowed := true, recurses := true, apart := false }
def SenderHearsSaid : Prop := senderHearsRow.holds Try.pinned (OpenSpec.ofChange senderHearsSpec)

/-- ITS FALSE NEIGHBOUR: 'it returns false'. Refute it at one input. -/
def senderHearsWrong : ChangeSpec := { name := "senderHears", fn := fun _ => fun
  | [d1, d2, d3, d4] => { results := [.lit (.bool false)], args := [d1, d2, d3, d4] }
  | _ => none }
def SenderHearsWrongFalsely : Prop := senderHearsRow.holds Try.pinned (OpenSpec.ofChange senderHearsWrong)

/-- 'spillwaylaw.SenderLoses': WHATEVER THE INPUT: true; the input reads as it did. -/
def senderLosesSpec : ChangeSpec := { name := "senderLoses", fn := fun _ => fun
  | [d1, d2, d3, d4] => { results := [.lit (.bool true)], args := [d1, d2, d3, d4] }
  | _ => none }
def senderLosesRow : OpenClaim := { program := "ytnbbnedpjfanoaa", sum := "ecd63302d65068c5b884012683ee423d24273b83eff2032deb83481a040ac9be", func := "spillway/spillwaylaw.SenderLoses", spec := "senderLoses", inPlace := ["internal/reflectlite.ValueOf", "internal/reflectlite.Swapper", "(internal/reflectlite.Value).Len"], unfollowed := true, recurses := true, apart := false }
def SenderLosesSaid : Prop := senderLosesRow.holds Try.pinned (OpenSpec.ofChange senderLosesSpec)

/-- ITS FALSE NEIGHBOUR: 'it returns false'. Refute it at one input. -/
def senderLosesWrong : ChangeSpec := { name := "senderLoses", fn := fun _ => fun
  | [d1, d2, d3, d4] => { results := [.lit (.bool false)], args := [d1, d2, d3, d4] }
  | _ => none }
def SenderLosesWrongFalsely : Prop := senderLosesRow.holds Try.pinned (OpenSpec.ofChange senderLosesWrong)

/-- 'spillwaylaw.SpaceHears': WHATEVER THE INPUT: true; the input reads as it did. -/
def spaceHearsSpec : ChangeSpec := { name := "spaceHears", fn := fun _ => fun
  | [d1, d2] => { results := [.lit (.bool true)], args := [d1, d2] }
  | _ => none }
def spaceHearsRow : OpenClaim := { program := "ytnbbnedpjfanoaa", sum := "ecd63302d65068c5b884012683ee423d24273b83eff2032deb83481a040ac9be", func := "spillway/spillwaylaw.SpaceHears", spec := "spaceHears", inPlace := ["internal/reflectlite.ValueOf", "internal/reflectlite.Swapper", "(internal/reflectlite.Value).Len"], unfollowed := true, recurses := true, apart := false }
def SpaceHearsSaid : Prop := spaceHearsRow.holds Try.pinned (OpenSpec.ofChange spaceHearsSpec)

/-- ITS FALSE NEIGHBOUR: 'it returns false'. Refute it at one input. -/
def spaceHearsWrong : ChangeSpec := { name := "spaceHears", fn := fun _ => fun
  | [d1, d2] => { results := [.lit (.bool false)], args := [d1, d2] }
  | _ => none }
def SpaceHearsWrongFalsely : Prop := spaceHearsRow.holds Try.pinned (OpenSpec.ofChange spaceHearsWrong)

/-- 'spillwaylaw.GatherPuts': WHATEVER THE INPUT: true; the input reads as it did. -/
def gatherPutsSpec : ChangeSpec := { name := "gatherPuts", fn := fun _ => fun
  | [d1, d2, d3, d4] => { results := [.lit (.bool true)], args := [d1, d2, d3, d4] }
  | _ => none }
def gatherPutsRow : OpenClaim := { program := "ytnbbnedpjfanoaa", sum := "ecd63302d65068c5b884012683ee423d24273b83eff2032deb83481a040ac9be", func := "spillway/spillwaylaw.GatherPuts", spec := "gatherPuts", unfollowed := true, recurses := true, apart := false }
def GatherPutsSaid : Prop := gatherPutsRow.holds Try.pinned (OpenSpec.ofChange gatherPutsSpec)

/-- ITS FALSE NEIGHBOUR: 'it returns false'. Refute it at one input. -/
def gatherPutsWrong : ChangeSpec := { name := "gatherPuts", fn := fun _ => fun
  | [d1, d2, d3, d4] => { results := [.lit (.bool false)], args := [d1, d2, d3, d4] }
  | _ => none }
def GatherPutsWrongFalsely : Prop := gatherPutsRow.holds Try.pinned (OpenSpec.ofChange gatherPutsWrong)

/-- 'spillwaylaw.RequestWrites': WHATEVER THE INPUT: true; the input reads as it did. -/
def requestWritesSpec : ChangeSpec := { name := "requestWrites", fn := fun _ => fun
  | [d1, d2, d3] => { results := [.lit (.bool true)], args := [d1, d2, d3] }
  | _ => none }
def requestWritesRow : OpenClaim := { program := "ytnbbnedpjfanoaa", sum := "ecd63302d65068c5b884012683ee423d24273b83eff2032deb83481a040ac9be", func := "spillway/spillwaylaw.RequestWrites", spec := "requestWrites", apart := false }
def RequestWritesSaid : Prop := requestWritesRow.holds Try.pinned (OpenSpec.ofChange requestWritesSpec)

/-- ITS FALSE NEIGHBOUR: 'it returns false'. Refute it at one input. -/
def requestWritesWrong : ChangeSpec := { name := "requestWrites", fn := fun _ => fun
  | [d1, d2, d3] => { results := [.lit (.bool false)], args := [d1, d2, d3] }
  | _ => none }
def RequestWritesWrongFalsely : Prop := requestWritesRow.holds Try.pinned (OpenSpec.ofChange requestWritesWrong)

/-- 'spillwaylaw.RequestFeeds': WHATEVER THE INPUT: true; the input reads as it did. -/
def requestFeedsSpec : ChangeSpec := { name := "requestFeeds", fn := fun _ => fun
  | [d1, d2, d3, d4] => { results := [.lit (.bool true)], args := [d1, d2, d3, d4] }
  | _ => none }
def requestFeedsRow : OpenClaim := { program := "ytnbbnedpjfanoaa", sum := "ecd63302d65068c5b884012683ee423d24273b83eff2032deb83481a040ac9be", func := "spillway/spillwaylaw.RequestFeeds", spec := "requestFeeds", apart := false }
def RequestFeedsSaid : Prop := requestFeedsRow.holds Try.pinned (OpenSpec.ofChange requestFeedsSpec)

/-- ITS FALSE NEIGHBOUR: 'it returns false'. Refute it at one input. -/
def requestFeedsWrong : ChangeSpec := { name := "requestFeeds", fn := fun _ => fun
  | [d1, d2, d3, d4] => { results := [.lit (.bool false)], args := [d1, d2, d3, d4] }
  | _ => none }
def RequestFeedsWrongFalsely : Prop := requestFeedsRow.holds Try.pinned (OpenSpec.ofChange requestFeedsWrong)

/- THE SECOND FORM. 'bulk': how many values and letters a reading holds, each counted each time it is reached (what is shared counts as often as it is met; a slice's spare places count too). A statement '..UptoSaid' is the law's where the arguments, and the package variables that the reading takes, are together of bulk at most 1048576: NARROWER than '..Said'. Prove '..Said' where nothing that the law and all that it calls make is longer than what came in: it says more and counts as full. Else prove '..UptoSaid'. A law counts once. -/
mutual
def uptoBulk {H : Type} : DataW H → Nat
  | .lit (.string bytes) => bytes.length + 1
  | .lit _ => 1
  | .nil => 1
  | .ptr d => uptoBulk d + 1
  | .slice elems spare => uptoBulkAll elems + uptoBulkAll spare + 1
  | .agg parts => uptoBulkAll parts + 1
  | .iface _ d => uptoBulk d + 1
  | .map entries => uptoBulkEntries entries + 1
  | .held _ => 1
def uptoBulkAll {H : Type} : List (DataW H) → Nat
  | [] => 0
  | d :: r => uptoBulk d + uptoBulkAll r
def uptoBulkEntries {H : Type} : List (Lit × DataW H) → Nat
  | [] => 0
  | x :: r => uptoBulkEntry x + uptoBulkEntries r
def uptoBulkEntry {H : Type} : Lit × DataW H → Nat
  | (.string bytes, d) => bytes.length + uptoBulk d + 1
  | (_, d) => uptoBulk d + 1
 end
def uptoSmall : (H : Type) → List (DataW H) → Bool := fun _ ds => decide (uptoBulkAll ds ≤ 1048576)
def OpenSpec.upto (s : _root_.Go.ChangeSpec) : _root_.Go.OpenSpec := { _root_.Go.OpenSpec.ofChange s with cond := some uptoSmall }

/-- 'spillwaylaw.FieldsApplies', WHERE WHAT IT READS IS OF BULK AT MOST 1048576: true; the input reads as it did. -/
def fieldsAppliesUptoRow : OpenClaim := { program := "ytnbbnedpjfanoaa", sum := "ecd63302d65068c5b884012683ee423d24273b83eff2032deb83481a040ac9be", func := "spillway/spillwaylaw.FieldsApplies", spec := "fieldsApplies", apart := false, narrowed := true }
def FieldsAppliesUptoSaid : Prop := fieldsAppliesUptoRow.holds Try.pinned (OpenSpec.upto fieldsAppliesSpec)

/-- 'spillwaylaw.FieldsDecodes', WHERE WHAT IT READS IS OF BULK AT MOST 1048576: true; the input reads as it did. -/
def fieldsDecodesUptoRow : OpenClaim := { program := "ytnbbnedpjfanoaa", sum := "ecd63302d65068c5b884012683ee423d24273b83eff2032deb83481a040ac9be", func := "spillway/spillwaylaw.FieldsDecodes", spec := "fieldsDecodes", apart := false, narrowed := true }
def FieldsDecodesUptoSaid : Prop := fieldsDecodesUptoRow.holds Try.pinned (OpenSpec.upto fieldsDecodesSpec)

/-- 'spillwaylaw.FieldsEncodes', WHERE WHAT IT READS IS OF BULK AT MOST 1048576: true; the input reads as it did. -/
def fieldsEncodesUptoRow : OpenClaim := { program := "ytnbbnedpjfanoaa", sum := "ecd63302d65068c5b884012683ee423d24273b83eff2032deb83481a040ac9be", func := "spillway/spillwaylaw.FieldsEncodes", spec := "fieldsEncodes", apart := false, narrowed := true }
def FieldsEncodesUptoSaid : Prop := fieldsEncodesUptoRow.holds Try.pinned (OpenSpec.upto fieldsEncodesSpec)

/-- 'spillwaylaw.RangesAdds', WHERE WHAT IT READS IS OF BULK AT MOST 1048576: true; the input reads as it did. -/
def rangesAddsUptoRow : OpenClaim := { program := "ytnbbnedpjfanoaa", sum := "ecd63302d65068c5b884012683ee423d24273b83eff2032deb83481a040ac9be", func := "spillway/spillwaylaw.RangesAdds", spec := "rangesAdds", inPlace := ["internal/reflectlite.ValueOf", "internal/reflectlite.Swapper", "(internal/reflectlite.Value).Len"], unfollowed := true, recurses := true, apart := false, narrowed := true }
def RangesAddsUptoSaid : Prop := rangesAddsUptoRow.holds Try.pinned (OpenSpec.upto rangesAddsSpec)

/-- 'spillwaylaw.RangesNotes', WHERE WHAT IT READS IS OF BULK AT MOST 1048576: true; the input reads as it did. -/
def rangesNotesUptoRow : OpenClaim := { program := "ytnbbnedpjfanoaa", sum := "ecd63302d65068c5b884012683ee423d24273b83eff2032deb83481a040ac9be", func := "spillway/spillwaylaw.RangesNotes", spec := "rangesNotes", inPlace := ["internal/reflectlite.ValueOf", "internal/reflectlite.Swapper", "(internal/reflectlite.Value).Len"], unfollowed := true, recurses := true, apart := false, narrowed := true }
def RangesNotesUptoSaid : Prop := rangesNotesUptoRow.holds Try.pinned (OpenSpec.upto rangesNotesSpec)

/-- 'spillwaylaw.SenderHears', WHERE WHAT IT READS IS OF BULK AT MOST 1048576: true; the input reads as it did. -/
def senderHearsUptoRow : OpenClaim := { program := "ytnbbnedpjfanoaa", sum := "ecd63302d65068c5b884012683ee423d24273b83eff2032deb83481a040ac9be", func := "spillway/spillwaylaw.SenderHears", spec := "senderHears", inPlace := ["internal/reflectlite.ValueOf", "internal/reflectlite.Swapper", "(internal/reflectlite.Value).Len"], unfollowed := true, recurses := true, apart := false, narrowed := true }
def SenderHearsUptoSaid : Prop := senderHearsUptoRow.holds Try.pinned (OpenSpec.upto senderHearsSpec)

/-- 'spillwaylaw.SenderLoses', WHERE WHAT IT READS IS OF BULK AT MOST 1048576: true; the input reads as it did. -/
def senderLosesUptoRow : OpenClaim := { program := "ytnbbnedpjfanoaa", sum := "ecd63302d65068c5b884012683ee423d24273b83eff2032deb83481a040ac9be", func := "spillway/spillwaylaw.SenderLoses", spec := "senderLoses", inPlace := ["internal/reflectlite.ValueOf", "internal/reflectlite.Swapper", "(internal/reflectlite.Value).Len"], unfollowed := true, recurses := true, apart := false, narrowed := true }
def SenderLosesUptoSaid : Prop := senderLosesUptoRow.holds Try.pinned (OpenSpec.upto senderLosesSpec)

/-- 'spillwaylaw.SpaceHears', WHERE WHAT IT READS IS OF BULK AT MOST 1048576: true; the input reads as it did. -/
def spaceHearsUptoRow : OpenClaim := { program := "ytnbbnedpjfanoaa", sum := "ecd63302d65068c5b884012683ee423d24273b83eff2032deb83481a040ac9be", func := "spillway/spillwaylaw.SpaceHears", spec := "spaceHears", inPlace := ["internal/reflectlite.ValueOf", "internal/reflectlite.Swapper", "(internal/reflectlite.Value).Len"], unfollowed := true, recurses := true, apart := false, narrowed := true }
def SpaceHearsUptoSaid : Prop := spaceHearsUptoRow.holds Try.pinned (OpenSpec.upto spaceHearsSpec)

/-- 'spillwaylaw.GatherPuts', WHERE WHAT IT READS IS OF BULK AT MOST 1048576: true; the input reads as it did. -/
def gatherPutsUptoRow : OpenClaim := { program := "ytnbbnedpjfanoaa", sum := "ecd63302d65068c5b884012683ee423d24273b83eff2032deb83481a040ac9be", func := "spillway/spillwaylaw.GatherPuts", spec := "gatherPuts", unfollowed := true, recurses := true, apart := false, narrowed := true }
def GatherPutsUptoSaid : Prop := gatherPutsUptoRow.holds Try.pinned (OpenSpec.upto gatherPutsSpec)

/-- 'spillwaylaw.RequestWrites', WHERE WHAT IT READS IS OF BULK AT MOST 1048576: true; the input reads as it did. -/
def requestWritesUptoRow : OpenClaim := { program := "ytnbbnedpjfanoaa", sum := "ecd63302d65068c5b884012683ee423d24273b83eff2032deb83481a040ac9be", func := "spillway/spillwaylaw.RequestWrites", spec := "requestWrites", apart := false, narrowed := true }
def RequestWritesUptoSaid : Prop := requestWritesUptoRow.holds Try.pinned (OpenSpec.upto requestWritesSpec)

/-- 'spillwaylaw.RequestFeeds', WHERE WHAT IT READS IS OF BULK AT MOST 1048576: true; the input reads as it did. -/
def requestFeedsUptoRow : OpenClaim := { program := "ytnbbnedpjfanoaa", sum := "ecd63302d65068c5b884012683ee423d24273b83eff2032deb83481a040ac9be", func := "spillway/spillwaylaw.RequestFeeds", spec := "requestFeeds", apart := false, narrowed := true }
def RequestFeedsUptoSaid : Prop := requestFeedsUptoRow.holds Try.pinned (OpenSpec.upto requestFeedsSpec)

end Rows
end Go.Proofs.Ytnbbnedpjfanoaa
