/-
  No cell of these rows narrows 'for every input' (looked for: loops, veiled, ifaces, maps, wideKeys, modest, calm, conditions, laid).
  DERIVED. THE GIVEN ROWS OF THIS SEAT. 12 by the template 'for every input the law returns true; each argument reads behind the call as it read before'; 0 by the template 'total and deterministic' (their statements: YtmdgnbidjejcoaaTotals.lean).
  GIVEN WITH THE SEED: the statements are not yours to turn. If you find one false, say at which input.
  Laid BY PROGRAM, IN A SANDBOX (cutbox-rows.mjs): the forced cells as the released guide's own fill.sh prints them over the translation c42ba0fca9494a6f… (all of the seat's roots in one cut). By AI agents, Wed Nov 11 2026. No macro, syntax, notation, axiom, sorry.
-/
import Derived.Test.YtmdgnbidjejcoaaChecked
import GoSem.Claim
import GoSem.ClaimJoined
import GoSem.ClaimMapViews
import Derived.JoinedTies
import Derived.KernelRfl
namespace Go.Proofs.Ytmdgnbidjejcoaa
/- THE CELL 'sum', in the pinned program and in every row, IS THE sha256 OF THE DUMP (.gsa) THAT YtmdgnbidjejcoaaProg.lean LOADS. Nothing in Lean hashes anything: it is a label: what it is worth is what the hold of that sum in a sandbox is worth. -/
noncomputable def Try.pinned : Pinned := { name := "ytmdgnbidjejcoaa", sum := "c42ba0fca9494a6fa5ae6683fc022c93788a407a1ebbdf9cb769f0280667827a", checked := Try.checked }
namespace Rows
def none {H : Type} : Left H := { results := [], args := [] }

/-- 'spillwaylaw.TokenChecks': WHATEVER THE INPUT: true; the input reads as it did. -/
def tokenChecksSpec : ChangeSpec := { name := "tokenChecks", fn := fun _ => fun
  | [d1, d2, d3, d4] => { results := [.lit (.bool true)], args := [d1, d2, d3, d4] }
  | _ => none }
def tokenChecksRow : OpenClaim := { program := "ytmdgnbidjejcoaa", sum := "c42ba0fca9494a6fa5ae6683fc022c93788a407a1ebbdf9cb769f0280667827a", func := "spillway/spillwaylaw.TokenChecks", spec := "tokenChecks", apart := false }
def TokenChecksSaid : Prop := tokenChecksRow.holds Try.pinned (OpenSpec.ofChange tokenChecksSpec)

/-- ITS FALSE NEIGHBOUR: 'it returns false'. Refute it at one input. -/
def tokenChecksWrong : ChangeSpec := { name := "tokenChecks", fn := fun _ => fun
  | [d1, d2, d3, d4] => { results := [.lit (.bool false)], args := [d1, d2, d3, d4] }
  | _ => none }
def TokenChecksWrongFalsely : Prop := tokenChecksRow.holds Try.pinned (OpenSpec.ofChange tokenChecksWrong)

/-- 'spillwaylaw.SpaceChecks': WHATEVER THE INPUT: true; the input reads as it did. -/
def spaceChecksSpec : ChangeSpec := { name := "spaceChecks", fn := fun _ => fun
  | [d] => { results := [.lit (.bool true)], args := [d] }
  | _ => none }
def spaceChecksRow : OpenClaim := { program := "ytmdgnbidjejcoaa", sum := "c42ba0fca9494a6fa5ae6683fc022c93788a407a1ebbdf9cb769f0280667827a", func := "spillway/spillwaylaw.SpaceChecks", spec := "spaceChecks", apart := false }
def SpaceChecksSaid : Prop := spaceChecksRow.holds Try.pinned (OpenSpec.ofChange spaceChecksSpec)

/-- ITS FALSE NEIGHBOUR: 'it returns false'. Refute it at one input. -/
def spaceChecksWrong : ChangeSpec := { name := "spaceChecks", fn := fun _ => fun
  | [d] => { results := [.lit (.bool false)], args := [d] }
  | _ => none }
def SpaceChecksWrongFalsely : Prop := spaceChecksRow.holds Try.pinned (OpenSpec.ofChange spaceChecksWrong)

/-- 'spillwaylaw.TallySends': WHATEVER THE INPUT: true; the input reads as it did. -/
def tallySendsSpec : ChangeSpec := { name := "tallySends", fn := fun _ => fun
  | [d1, d2] => { results := [.lit (.bool true)], args := [d1, d2] }
  | _ => none }
def tallySendsRow : OpenClaim := { program := "ytmdgnbidjejcoaa", sum := "c42ba0fca9494a6fa5ae6683fc022c93788a407a1ebbdf9cb769f0280667827a", func := "spillway/spillwaylaw.TallySends", spec := "tallySends", apart := false }
def TallySendsSaid : Prop := tallySendsRow.holds Try.pinned (OpenSpec.ofChange tallySendsSpec)

/-- ITS FALSE NEIGHBOUR: 'it returns false'. Refute it at one input. -/
def tallySendsWrong : ChangeSpec := { name := "tallySends", fn := fun _ => fun
  | [d1, d2] => { results := [.lit (.bool false)], args := [d1, d2] }
  | _ => none }
def TallySendsWrongFalsely : Prop := tallySendsRow.holds Try.pinned (OpenSpec.ofChange tallySendsWrong)

/-- 'spillwaylaw.TableInserts': WHATEVER THE INPUT: true; the input reads as it did. -/
def tableInsertsSpec : ChangeSpec := { name := "tableInserts", fn := fun _ => fun
  | [d1, d2] => { results := [.lit (.bool true)], args := [d1, d2] }
  | _ => none }
def tableInsertsRow : OpenClaim := { program := "ytmdgnbidjejcoaa", sum := "c42ba0fca9494a6fa5ae6683fc022c93788a407a1ebbdf9cb769f0280667827a", func := "spillway/spillwaylaw.TableInserts", spec := "tableInserts", apart := false }
def TableInsertsSaid : Prop := tableInsertsRow.holds Try.pinned (OpenSpec.ofChange tableInsertsSpec)

/-- ITS FALSE NEIGHBOUR: 'it returns false'. Refute it at one input. -/
def tableInsertsWrong : ChangeSpec := { name := "tableInserts", fn := fun _ => fun
  | [d1, d2] => { results := [.lit (.bool false)], args := [d1, d2] }
  | _ => none }
def TableInsertsWrongFalsely : Prop := tableInsertsRow.holds Try.pinned (OpenSpec.ofChange tableInsertsWrong)

/-- 'spillwaylaw.TableGets': WHATEVER THE INPUT: true; the input reads as it did. -/
def tableGetsSpec : ChangeSpec := { name := "tableGets", fn := fun _ => fun
  | [d1, d2, d3] => { results := [.lit (.bool true)], args := [d1, d2, d3] }
  | _ => none }
def tableGetsRow : OpenClaim := { program := "ytmdgnbidjejcoaa", sum := "c42ba0fca9494a6fa5ae6683fc022c93788a407a1ebbdf9cb769f0280667827a", func := "spillway/spillwaylaw.TableGets", spec := "tableGets", apart := false }
def TableGetsSaid : Prop := tableGetsRow.holds Try.pinned (OpenSpec.ofChange tableGetsSpec)

/-- ITS FALSE NEIGHBOUR: 'it returns false'. Refute it at one input. -/
def tableGetsWrong : ChangeSpec := { name := "tableGets", fn := fun _ => fun
  | [d1, d2, d3] => { results := [.lit (.bool false)], args := [d1, d2, d3] }
  | _ => none }
def TableGetsWrongFalsely : Prop := tableGetsRow.holds Try.pinned (OpenSpec.ofChange tableGetsWrong)

/-- 'spillwaylaw.SenderWrites': WHATEVER THE INPUT: true; the input reads as it did. -/
def senderWritesSpec : ChangeSpec := { name := "senderWrites", fn := fun _ => fun
  | [d1, d2, d3, d4] => { results := [.lit (.bool true)], args := [d1, d2, d3, d4] }
  | _ => none }
def senderWritesRow : OpenClaim := { program := "ytmdgnbidjejcoaa", sum := "c42ba0fca9494a6fa5ae6683fc022c93788a407a1ebbdf9cb769f0280667827a", func := "spillway/spillwaylaw.SenderWrites", spec := "senderWrites", apart := false }
def SenderWritesSaid : Prop := senderWritesRow.holds Try.pinned (OpenSpec.ofChange senderWritesSpec)

/-- ITS FALSE NEIGHBOUR: 'it returns false'. Refute it at one input. -/
def senderWritesWrong : ChangeSpec := { name := "senderWrites", fn := fun _ => fun
  | [d1, d2, d3, d4] => { results := [.lit (.bool false)], args := [d1, d2, d3, d4] }
  | _ => none }
def SenderWritesWrongFalsely : Prop := senderWritesRow.holds Try.pinned (OpenSpec.ofChange senderWritesWrong)

/-- 'spillwaylaw.FrameChecks': WHATEVER THE INPUT: true; the input reads as it did. -/
def frameChecksSpec : ChangeSpec := { name := "frameChecks", fn := fun _ => fun
  | [d] => { results := [.lit (.bool true)], args := [d] }
  | _ => none }
def frameChecksRow : OpenClaim := { program := "ytmdgnbidjejcoaa", sum := "c42ba0fca9494a6fa5ae6683fc022c93788a407a1ebbdf9cb769f0280667827a", func := "spillway/spillwaylaw.FrameChecks", spec := "frameChecks", apart := false }
def FrameChecksSaid : Prop := frameChecksRow.holds Try.pinned (OpenSpec.ofChange frameChecksSpec)

/-- ITS FALSE NEIGHBOUR: 'it returns false'. Refute it at one input. -/
def frameChecksWrong : ChangeSpec := { name := "frameChecks", fn := fun _ => fun
  | [d] => { results := [.lit (.bool false)], args := [d] }
  | _ => none }
def FrameChecksWrongFalsely : Prop := frameChecksRow.holds Try.pinned (OpenSpec.ofChange frameChecksWrong)

/-- 'spillwaylaw.HeadDecodes': WHATEVER THE INPUT: true; the input reads as it did. -/
def headDecodesSpec : ChangeSpec := { name := "headDecodes", fn := fun _ => fun
  | [d] => { results := [.lit (.bool true)], args := [d] }
  | _ => none }
def headDecodesRow : OpenClaim := { program := "ytmdgnbidjejcoaa", sum := "c42ba0fca9494a6fa5ae6683fc022c93788a407a1ebbdf9cb769f0280667827a", func := "spillway/spillwaylaw.HeadDecodes", spec := "headDecodes", apart := false }
def HeadDecodesSaid : Prop := headDecodesRow.holds Try.pinned (OpenSpec.ofChange headDecodesSpec)

/-- ITS FALSE NEIGHBOUR: 'it returns false'. Refute it at one input. -/
def headDecodesWrong : ChangeSpec := { name := "headDecodes", fn := fun _ => fun
  | [d] => { results := [.lit (.bool false)], args := [d] }
  | _ => none }
def HeadDecodesWrongFalsely : Prop := headDecodesRow.holds Try.pinned (OpenSpec.ofChange headDecodesWrong)

/-- 'spillwaylaw.SpaceSends': WHATEVER THE INPUT: true; the input reads as it did. -/
def spaceSendsSpec : ChangeSpec := { name := "spaceSends", fn := fun _ => fun
  | [d1, d2, d3, d4] => { results := [.lit (.bool true)], args := [d1, d2, d3, d4] }
  | _ => none }
def spaceSendsRow : OpenClaim := { program := "ytmdgnbidjejcoaa", sum := "c42ba0fca9494a6fa5ae6683fc022c93788a407a1ebbdf9cb769f0280667827a", func := "spillway/spillwaylaw.SpaceSends", spec := "spaceSends", apart := false }
def SpaceSendsSaid : Prop := spaceSendsRow.holds Try.pinned (OpenSpec.ofChange spaceSendsSpec)

/-- ITS FALSE NEIGHBOUR: 'it returns false'. Refute it at one input. -/
def spaceSendsWrong : ChangeSpec := { name := "spaceSends", fn := fun _ => fun
  | [d1, d2, d3, d4] => { results := [.lit (.bool false)], args := [d1, d2, d3, d4] }
  | _ => none }
def SpaceSendsWrongFalsely : Prop := spaceSendsRow.holds Try.pinned (OpenSpec.ofChange spaceSendsWrong)

/-- 'spillwaylaw.SpaceOverdues': WHATEVER THE INPUT: true; the input reads as it did. -/
def spaceOverduesSpec : ChangeSpec := { name := "spaceOverdues", fn := fun _ => fun
  | [d1, d2, d3] => { results := [.lit (.bool true)], args := [d1, d2, d3] }
  | _ => none }
def spaceOverduesRow : OpenClaim := { program := "ytmdgnbidjejcoaa", sum := "c42ba0fca9494a6fa5ae6683fc022c93788a407a1ebbdf9cb769f0280667827a", func := "spillway/spillwaylaw.SpaceOverdues", spec := "spaceOverdues", unfollowed := true, recurses := true, apart := false }
def SpaceOverduesSaid : Prop := spaceOverduesRow.holds Try.pinned (OpenSpec.ofChange spaceOverduesSpec)

/-- ITS FALSE NEIGHBOUR: 'it returns false'. Refute it at one input. -/
def spaceOverduesWrong : ChangeSpec := { name := "spaceOverdues", fn := fun _ => fun
  | [d1, d2, d3] => { results := [.lit (.bool false)], args := [d1, d2, d3] }
  | _ => none }
def SpaceOverduesWrongFalsely : Prop := spaceOverduesRow.holds Try.pinned (OpenSpec.ofChange spaceOverduesWrong)

/-- 'spillwaylaw.SpaceLeaps': WHATEVER THE INPUT: true; the input reads as it did. -/
def spaceLeapsSpec : ChangeSpec := { name := "spaceLeaps", fn := fun _ => fun
  | [d] => { results := [.lit (.bool true)], args := [d] }
  | _ => none }
def spaceLeapsRow : OpenClaim := { program := "ytmdgnbidjejcoaa", sum := "c42ba0fca9494a6fa5ae6683fc022c93788a407a1ebbdf9cb769f0280667827a", func := "spillway/spillwaylaw.SpaceLeaps", spec := "spaceLeaps", apart := false }
def SpaceLeapsSaid : Prop := spaceLeapsRow.holds Try.pinned (OpenSpec.ofChange spaceLeapsSpec)

/-- ITS FALSE NEIGHBOUR: 'it returns false'. Refute it at one input. -/
def spaceLeapsWrong : ChangeSpec := { name := "spaceLeaps", fn := fun _ => fun
  | [d] => { results := [.lit (.bool false)], args := [d] }
  | _ => none }
def SpaceLeapsWrongFalsely : Prop := spaceLeapsRow.holds Try.pinned (OpenSpec.ofChange spaceLeapsWrong)

/-- 'spillwaylaw.HeadEncodes': WHATEVER THE INPUT: true; the input reads as it did. -/
def headEncodesSpec : ChangeSpec := { name := "headEncodes", fn := fun _ => fun
  | [d] => { results := [.lit (.bool true)], args := [d] }
  | _ => none }
def headEncodesRow : OpenClaim := { program := "ytmdgnbidjejcoaa", sum := "c42ba0fca9494a6fa5ae6683fc022c93788a407a1ebbdf9cb769f0280667827a", func := "spillway/spillwaylaw.HeadEncodes", spec := "headEncodes", unfollowed := true, recurses := true, apart := false }
def HeadEncodesSaid : Prop := headEncodesRow.holds Try.pinned (OpenSpec.ofChange headEncodesSpec)

/-- ITS FALSE NEIGHBOUR: 'it returns false'. Refute it at one input. -/
def headEncodesWrong : ChangeSpec := { name := "headEncodes", fn := fun _ => fun
  | [d] => { results := [.lit (.bool false)], args := [d] }
  | _ => none }
def HeadEncodesWrongFalsely : Prop := headEncodesRow.holds Try.pinned (OpenSpec.ofChange headEncodesWrong)

/- THE SECOND FORM. 'bulk': how many values and letters a reading holds, each counted each time it is reached (what is shared counts as often as it is met; a slice's spare places count too). A statement '..UptoSaid' is the law's where the arguments, and the package variables that the reading takes, are together of bulk at most 1048576: NARROWER than '..Said'. Prove '..Said' where nothing that the law and all that it calls make is longer than what came in: it says more and counts as full. Else prove '..UptoSaid'. A law counts once. -/
mutual
def uptoBulk {H : Type} : DataW H → Nat
  | .lit (.string bytes) => bytes.length + 1
  | .lit _ => 1
  | .nil => 1
  | .ptr d => uptoBulk d + 1
  | .slice elems spare => uptoBulkAll elems + uptoBulkAll spare + 1
  | .agg parts => uptoBulkAll parts + 1
  | .iface _ d => uptoBulk d + 1
  | .map entries => uptoBulkEntries entries + 1
  | .held _ => 1
def uptoBulkAll {H : Type} : List (DataW H) → Nat
  | [] => 0
  | d :: r => uptoBulk d + uptoBulkAll r
def uptoBulkEntries {H : Type} : List (Lit × DataW H) → Nat
  | [] => 0
  | x :: r => uptoBulkEntry x + uptoBulkEntries r
def uptoBulkEntry {H : Type} : Lit × DataW H → Nat
  | (.string bytes, d) => bytes.length + uptoBulk d + 1
  | (_, d) => uptoBulk d + 1
 end
def uptoSmall : (H : Type) → List (DataW H) → Bool := fun _ ds => decide (uptoBulkAll ds ≤ 1048576)
def OpenSpec.upto (s : _root_.Go.ChangeSpec) : _root_.Go.OpenSpec := { _root_.Go.OpenSpec.ofChange s with cond := some uptoSmall }

/-- 'spillwaylaw.TokenChecks', WHERE WHAT IT READS IS OF BULK AT MOST 1048576: true; the input reads as it did. -/
def tokenChecksUptoRow : OpenClaim := { program := "ytmdgnbidjejcoaa", sum := "c42ba0fca9494a6fa5ae6683fc022c93788a407a1ebbdf9cb769f0280667827a", func := "spillway/spillwaylaw.TokenChecks", spec := "tokenChecks", apart := false, narrowed := true }
def TokenChecksUptoSaid : Prop := tokenChecksUptoRow.holds Try.pinned (OpenSpec.upto tokenChecksSpec)

/-- 'spillwaylaw.SpaceChecks', WHERE WHAT IT READS IS OF BULK AT MOST 1048576: true; the input reads as it did. -/
def spaceChecksUptoRow : OpenClaim := { program := "ytmdgnbidjejcoaa", sum := "c42ba0fca9494a6fa5ae6683fc022c93788a407a1ebbdf9cb769f0280667827a", func := "spillway/spillwaylaw.SpaceChecks", spec := "spaceChecks", apart := false, narrowed := true }
def SpaceChecksUptoSaid : Prop := spaceChecksUptoRow.holds Try.pinned (OpenSpec.upto spaceChecksSpec)

/-- 'spillwaylaw.TallySends', WHERE WHAT IT READS IS OF BULK AT MOST 1048576: true; the input reads as it did. -/
def tallySendsUptoRow : OpenClaim := { program := "ytmdgnbidjejcoaa", sum := "c42ba0fca9494a6fa5ae6683fc022c93788a407a1ebbdf9cb769f0280667827a", func := "spillway/spillwaylaw.TallySends", spec := "tallySends", apart := false, narrowed := true }
def TallySendsUptoSaid : Prop := tallySendsUptoRow.holds Try.pinned (OpenSpec.upto tallySendsSpec)

/-- 'spillwaylaw.TableInserts', WHERE WHAT IT READS IS OF BULK AT MOST 1048576: true; the input reads as it did. -/
def tableInsertsUptoRow : OpenClaim := { program := "ytmdgnbidjejcoaa", sum := "c42ba0fca9494a6fa5ae6683fc022c93788a407a1ebbdf9cb769f0280667827a", func := "spillway/spillwaylaw.TableInserts", spec := "tableInserts", apart := false, narrowed := true }
def TableInsertsUptoSaid : Prop := tableInsertsUptoRow.holds Try.pinned (OpenSpec.upto tableInsertsSpec)

/-- 'spillwaylaw.TableGets', WHERE WHAT IT READS IS OF BULK AT MOST 1048576: true; the input reads as it did. -/
def tableGetsUptoRow : OpenClaim := { program := "ytmdgnbidjejcoaa", sum := "c42ba0fca9494a6fa5ae6683fc022c93788a407a1ebbdf9cb769f0280667827a", func := "spillway/spillwaylaw.TableGets", spec := "tableGets", apart := false, narrowed := true }
def TableGetsUptoSaid : Prop := tableGetsUptoRow.holds Try.pinned (OpenSpec.upto tableGetsSpec)

/-- 'spillwaylaw.SenderWrites', WHERE WHAT IT READS IS OF BULK AT MOST 1048576: true; the input reads as it did. -/
def senderWritesUptoRow : OpenClaim := { program := "ytmdgnbidjejcoaa", sum := "c42ba0fca9494a6fa5ae6683fc022c93788a407a1ebbdf9cb769f0280667827a", func := "spillway/spillwaylaw.SenderWrites", spec := "senderWrites", apart := false, narrowed := true }
def SenderWritesUptoSaid : Prop := senderWritesUptoRow.holds Try.pinned (OpenSpec.upto senderWritesSpec)

/-- 'spillwaylaw.FrameChecks', WHERE WHAT IT READS IS OF BULK AT MOST 1048576: true; the input reads as it did. -/
def frameChecksUptoRow : OpenClaim := { program := "ytmdgnbidjejcoaa", sum := "c42ba0fca9494a6fa5ae6683fc022c93788a407a1ebbdf9cb769f0280667827a", func := "spillway/spillwaylaw.FrameChecks", spec := "frameChecks", apart := false, narrowed := true }
def FrameChecksUptoSaid : Prop := frameChecksUptoRow.holds Try.pinned (OpenSpec.upto frameChecksSpec)

/-- 'spillwaylaw.HeadDecodes', WHERE WHAT IT READS IS OF BULK AT MOST 1048576: true; the input reads as it did. -/
def headDecodesUptoRow : OpenClaim := { program := "ytmdgnbidjejcoaa", sum := "c42ba0fca9494a6fa5ae6683fc022c93788a407a1ebbdf9cb769f0280667827a", func := "spillway/spillwaylaw.HeadDecodes", spec := "headDecodes", apart := false, narrowed := true }
def HeadDecodesUptoSaid : Prop := headDecodesUptoRow.holds Try.pinned (OpenSpec.upto headDecodesSpec)

/-- 'spillwaylaw.SpaceSends', WHERE WHAT IT READS IS OF BULK AT MOST 1048576: true; the input reads as it did. -/
def spaceSendsUptoRow : OpenClaim := { program := "ytmdgnbidjejcoaa", sum := "c42ba0fca9494a6fa5ae6683fc022c93788a407a1ebbdf9cb769f0280667827a", func := "spillway/spillwaylaw.SpaceSends", spec := "spaceSends", apart := false, narrowed := true }
def SpaceSendsUptoSaid : Prop := spaceSendsUptoRow.holds Try.pinned (OpenSpec.upto spaceSendsSpec)

/-- 'spillwaylaw.SpaceOverdues', WHERE WHAT IT READS IS OF BULK AT MOST 1048576: true; the input reads as it did. -/
def spaceOverduesUptoRow : OpenClaim := { program := "ytmdgnbidjejcoaa", sum := "c42ba0fca9494a6fa5ae6683fc022c93788a407a1ebbdf9cb769f0280667827a", func := "spillway/spillwaylaw.SpaceOverdues", spec := "spaceOverdues", unfollowed := true, recurses := true, apart := false, narrowed := true }
def SpaceOverduesUptoSaid : Prop := spaceOverduesUptoRow.holds Try.pinned (OpenSpec.upto spaceOverduesSpec)

/-- 'spillwaylaw.SpaceLeaps', WHERE WHAT IT READS IS OF BULK AT MOST 1048576: true; the input reads as it did. -/
def spaceLeapsUptoRow : OpenClaim := { program := "ytmdgnbidjejcoaa", sum := "c42ba0fca9494a6fa5ae6683fc022c93788a407a1ebbdf9cb769f0280667827a", func := "spillway/spillwaylaw.SpaceLeaps", spec := "spaceLeaps", apart := false, narrowed := true }
def SpaceLeapsUptoSaid : Prop := spaceLeapsUptoRow.holds Try.pinned (OpenSpec.upto spaceLeapsSpec)

/-- 'spillwaylaw.HeadEncodes', WHERE WHAT IT READS IS OF BULK AT MOST 1048576: true; the input reads as it did. -/
def headEncodesUptoRow : OpenClaim := { program := "ytmdgnbidjejcoaa", sum := "c42ba0fca9494a6fa5ae6683fc022c93788a407a1ebbdf9cb769f0280667827a", func := "spillway/spillwaylaw.HeadEncodes", spec := "headEncodes", unfollowed := true, recurses := true, apart := false, narrowed := true }
def HeadEncodesUptoSaid : Prop := headEncodesUptoRow.holds Try.pinned (OpenSpec.upto headEncodesSpec)

end Rows
end Go.Proofs.Ytmdgnbidjejcoaa
