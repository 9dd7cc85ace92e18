/-
  No cell of these rows narrows 'for every input' (looked for: loops, veiled, ifaces, maps, wideKeys, modest, calm, conditions, laid).
  DERIVED. THE GIVEN ROWS OF THIS SEAT. 12 by the template 'for every input the law returns true; each argument reads behind the call as it read before'; 0 by the template 'total and deterministic' (their statements: YtkineiemgjandaaTotals.lean).
  GIVEN WITH THE SEED: the statements are not yours to turn. If you find one false, say at which input.
  Laid BY PROGRAM, IN A SANDBOX (cutbox-rows.mjs): the forced cells as the released guide's own fill.sh prints them over the translation 3d78e876136c11ab… (all of the seat's roots in one cut). By AI agents, Wed Nov 11 2026. No macro, syntax, notation, axiom, sorry.
-/
import Derived.Test.YtkineiemgjandaaChecked
import GoSem.Claim
import GoSem.ClaimJoined
import GoSem.ClaimMapViews
import Derived.JoinedTies
import Derived.KernelRfl
namespace Go.Proofs.Ytkineiemgjandaa
/- THE CELL 'sum', in the pinned program and in every row, IS THE sha256 OF THE DUMP (.gsa) THAT YtkineiemgjandaaProg.lean LOADS. Nothing in Lean hashes anything: it is a label: what it is worth is what the hold of that sum in a sandbox is worth. -/
noncomputable def Try.pinned : Pinned := { name := "ytkineiemgjandaa", sum := "3d78e876136c11aba1c29195f6627e508ddc83abce4431a1144792bad023f13d", checked := Try.checked }
namespace Rows
def none {H : Type} : Left H := { results := [], args := [] }

/-- 'spillwaylaw.PrefixEncodes': WHATEVER THE INPUT: true; the input reads as it did. -/
def prefixEncodesSpec : ChangeSpec := { name := "prefixEncodes", fn := fun _ => fun
  | [d1, d2, d3, d4] => { results := [.lit (.bool true)], args := [d1, d2, d3, d4] }
  | _ => none }
def prefixEncodesRow : OpenClaim := { program := "ytkineiemgjandaa", sum := "3d78e876136c11aba1c29195f6627e508ddc83abce4431a1144792bad023f13d", func := "spillway/spillwaylaw.PrefixEncodes", spec := "prefixEncodes", apart := false }
def PrefixEncodesSaid : Prop := prefixEncodesRow.holds Try.pinned (OpenSpec.ofChange prefixEncodesSpec)

/-- ITS FALSE NEIGHBOUR: 'it returns false'. Refute it at one input. -/
def prefixEncodesWrong : ChangeSpec := { name := "prefixEncodes", fn := fun _ => fun
  | [d1, d2, d3, d4] => { results := [.lit (.bool false)], args := [d1, d2, d3, d4] }
  | _ => none }
def PrefixEncodesWrongFalsely : Prop := prefixEncodesRow.holds Try.pinned (OpenSpec.ofChange prefixEncodesWrong)

/-- 'spillwaylaw.LockSeals': WHATEVER THE INPUT: true; the input reads as it did. -/
def lockSealsSpec : ChangeSpec := { name := "lockSeals", fn := fun _ => fun
  | [d1, d2, d3, d4] => { results := [.lit (.bool true)], args := [d1, d2, d3, d4] }
  | _ => none }
def lockSealsRow : OpenClaim := { program := "ytkineiemgjandaa", sum := "3d78e876136c11aba1c29195f6627e508ddc83abce4431a1144792bad023f13d", func := "spillway/spillwaylaw.LockSeals", spec := "lockSeals", apart := false }
def LockSealsSaid : Prop := lockSealsRow.holds Try.pinned (OpenSpec.ofChange lockSealsSpec)

/-- ITS FALSE NEIGHBOUR: 'it returns false'. Refute it at one input. -/
def lockSealsWrong : ChangeSpec := { name := "lockSeals", fn := fun _ => fun
  | [d1, d2, d3, d4] => { results := [.lit (.bool false)], args := [d1, d2, d3, d4] }
  | _ => none }
def LockSealsWrongFalsely : Prop := lockSealsRow.holds Try.pinned (OpenSpec.ofChange lockSealsWrong)

/-- 'spillwaylaw.LockOpens': WHATEVER THE INPUT: true; the input reads as it did. -/
def lockOpensSpec : ChangeSpec := { name := "lockOpens", fn := fun _ => fun
  | [d1, d2, d3, d4] => { results := [.lit (.bool true)], args := [d1, d2, d3, d4] }
  | _ => none }
def lockOpensRow : OpenClaim := { program := "ytkineiemgjandaa", sum := "3d78e876136c11aba1c29195f6627e508ddc83abce4431a1144792bad023f13d", func := "spillway/spillwaylaw.LockOpens", spec := "lockOpens", apart := false }
def LockOpensSaid : Prop := lockOpensRow.holds Try.pinned (OpenSpec.ofChange lockOpensSpec)

/-- ITS FALSE NEIGHBOUR: 'it returns false'. Refute it at one input. -/
def lockOpensWrong : ChangeSpec := { name := "lockOpens", fn := fun _ => fun
  | [d1, d2, d3, d4] => { results := [.lit (.bool false)], args := [d1, d2, d3, d4] }
  | _ => none }
def LockOpensWrongFalsely : Prop := lockOpensRow.holds Try.pinned (OpenSpec.ofChange lockOpensWrong)

/-- 'spillwaylaw.SenderChecks': WHATEVER THE INPUT: true; the input reads as it did. -/
def senderChecksSpec : ChangeSpec := { name := "senderChecks", fn := fun _ => fun
  | [d] => { results := [.lit (.bool true)], args := [d] }
  | _ => none }
def senderChecksRow : OpenClaim := { program := "ytkineiemgjandaa", sum := "3d78e876136c11aba1c29195f6627e508ddc83abce4431a1144792bad023f13d", func := "spillway/spillwaylaw.SenderChecks", spec := "senderChecks", apart := false }
def SenderChecksSaid : Prop := senderChecksRow.holds Try.pinned (OpenSpec.ofChange senderChecksSpec)

/-- ITS FALSE NEIGHBOUR: 'it returns false'. Refute it at one input. -/
def senderChecksWrong : ChangeSpec := { name := "senderChecks", fn := fun _ => fun
  | [d] => { results := [.lit (.bool false)], args := [d] }
  | _ => none }
def SenderChecksWrongFalsely : Prop := senderChecksRow.holds Try.pinned (OpenSpec.ofChange senderChecksWrong)

/-- 'spillwaylaw.SenderWrites': WHATEVER THE INPUT: true; the input reads as it did. -/
def senderWritesSpec : ChangeSpec := { name := "senderWrites", fn := fun _ => fun
  | [d1, d2, d3, d4] => { results := [.lit (.bool true)], args := [d1, d2, d3, d4] }
  | _ => none }
def senderWritesRow : OpenClaim := { program := "ytkineiemgjandaa", sum := "3d78e876136c11aba1c29195f6627e508ddc83abce4431a1144792bad023f13d", func := "spillway/spillwaylaw.SenderWrites", spec := "senderWrites", apart := false }
def SenderWritesSaid : Prop := senderWritesRow.holds Try.pinned (OpenSpec.ofChange senderWritesSpec)

/-- ITS FALSE NEIGHBOUR: 'it returns false'. Refute it at one input. -/
def senderWritesWrong : ChangeSpec := { name := "senderWrites", fn := fun _ => fun
  | [d1, d2, d3, d4] => { results := [.lit (.bool false)], args := [d1, d2, d3, d4] }
  | _ => none }
def SenderWritesWrongFalsely : Prop := senderWritesRow.holds Try.pinned (OpenSpec.ofChange senderWritesWrong)

/-- 'spillwaylaw.SenderPieces': WHATEVER THE INPUT: true; the input reads as it did. -/
def senderPiecesSpec : ChangeSpec := { name := "senderPieces", fn := fun _ => fun
  | [d1, d2, d3] => { results := [.lit (.bool true)], args := [d1, d2, d3] }
  | _ => none }
def senderPiecesRow : OpenClaim := { program := "ytkineiemgjandaa", sum := "3d78e876136c11aba1c29195f6627e508ddc83abce4431a1144792bad023f13d", func := "spillway/spillwaylaw.SenderPieces", spec := "senderPieces", apart := false }
def SenderPiecesSaid : Prop := senderPiecesRow.holds Try.pinned (OpenSpec.ofChange senderPiecesSpec)

/-- ITS FALSE NEIGHBOUR: 'it returns false'. Refute it at one input. -/
def senderPiecesWrong : ChangeSpec := { name := "senderPieces", fn := fun _ => fun
  | [d1, d2, d3] => { results := [.lit (.bool false)], args := [d1, d2, d3] }
  | _ => none }
def SenderPiecesWrongFalsely : Prop := senderPiecesRow.holds Try.pinned (OpenSpec.ofChange senderPiecesWrong)

/-- 'spillwaylaw.FrameChecks': WHATEVER THE INPUT: true; the input reads as it did. -/
def frameChecksSpec : ChangeSpec := { name := "frameChecks", fn := fun _ => fun
  | [d] => { results := [.lit (.bool true)], args := [d] }
  | _ => none }
def frameChecksRow : OpenClaim := { program := "ytkineiemgjandaa", sum := "3d78e876136c11aba1c29195f6627e508ddc83abce4431a1144792bad023f13d", func := "spillway/spillwaylaw.FrameChecks", spec := "frameChecks", apart := false }
def FrameChecksSaid : Prop := frameChecksRow.holds Try.pinned (OpenSpec.ofChange frameChecksSpec)

/-- ITS FALSE NEIGHBOUR: 'it returns false'. Refute it at one input. -/
def frameChecksWrong : ChangeSpec := { name := "frameChecks", fn := fun _ => fun
  | [d] => { results := [.lit (.bool false)], args := [d] }
  | _ => none }
def FrameChecksWrongFalsely : Prop := frameChecksRow.holds Try.pinned (OpenSpec.ofChange frameChecksWrong)

/-- 'spillwaylaw.HeadDecodes': WHATEVER THE INPUT: true; the input reads as it did. -/
def headDecodesSpec : ChangeSpec := { name := "headDecodes", fn := fun _ => fun
  | [d] => { results := [.lit (.bool true)], args := [d] }
  | _ => none }
def headDecodesRow : OpenClaim := { program := "ytkineiemgjandaa", sum := "3d78e876136c11aba1c29195f6627e508ddc83abce4431a1144792bad023f13d", func := "spillway/spillwaylaw.HeadDecodes", spec := "headDecodes", apart := false }
def HeadDecodesSaid : Prop := headDecodesRow.holds Try.pinned (OpenSpec.ofChange headDecodesSpec)

/-- ITS FALSE NEIGHBOUR: 'it returns false'. Refute it at one input. -/
def headDecodesWrong : ChangeSpec := { name := "headDecodes", fn := fun _ => fun
  | [d] => { results := [.lit (.bool false)], args := [d] }
  | _ => none }
def HeadDecodesWrongFalsely : Prop := headDecodesRow.holds Try.pinned (OpenSpec.ofChange headDecodesWrong)

/-- 'spillwaylaw.HeadEncodes': WHATEVER THE INPUT: true; the input reads as it did. -/
def headEncodesSpec : ChangeSpec := { name := "headEncodes", fn := fun _ => fun
  | [d] => { results := [.lit (.bool true)], args := [d] }
  | _ => none }
def headEncodesRow : OpenClaim := { program := "ytkineiemgjandaa", sum := "3d78e876136c11aba1c29195f6627e508ddc83abce4431a1144792bad023f13d", func := "spillway/spillwaylaw.HeadEncodes", spec := "headEncodes", unfollowed := true, recurses := true, apart := false }
def HeadEncodesSaid : Prop := headEncodesRow.holds Try.pinned (OpenSpec.ofChange headEncodesSpec)

/-- ITS FALSE NEIGHBOUR: 'it returns false'. Refute it at one input. -/
def headEncodesWrong : ChangeSpec := { name := "headEncodes", fn := fun _ => fun
  | [d] => { results := [.lit (.bool false)], args := [d] }
  | _ => none }
def HeadEncodesWrongFalsely : Prop := headEncodesRow.holds Try.pinned (OpenSpec.ofChange headEncodesWrong)

/-- 'spillwaylaw.FrameEncodes': WHATEVER THE INPUT: true; the input reads as it did. -/
def frameEncodesSpec : ChangeSpec := { name := "frameEncodes", fn := fun _ => fun
  | [d] => { results := [.lit (.bool true)], args := [d] }
  | _ => none }
def frameEncodesRow : OpenClaim := { program := "ytkineiemgjandaa", sum := "3d78e876136c11aba1c29195f6627e508ddc83abce4431a1144792bad023f13d", func := "spillway/spillwaylaw.FrameEncodes", spec := "frameEncodes", apart := false }
def FrameEncodesSaid : Prop := frameEncodesRow.holds Try.pinned (OpenSpec.ofChange frameEncodesSpec)

/-- ITS FALSE NEIGHBOUR: 'it returns false'. Refute it at one input. -/
def frameEncodesWrong : ChangeSpec := { name := "frameEncodes", fn := fun _ => fun
  | [d] => { results := [.lit (.bool false)], args := [d] }
  | _ => none }
def FrameEncodesWrongFalsely : Prop := frameEncodesRow.holds Try.pinned (OpenSpec.ofChange frameEncodesWrong)

/-- 'spillwaylaw.FrameDecodes': WHATEVER THE INPUT: true; the input reads as it did. -/
def frameDecodesSpec : ChangeSpec := { name := "frameDecodes", fn := fun _ => fun
  | [d] => { results := [.lit (.bool true)], args := [d] }
  | _ => none }
def frameDecodesRow : OpenClaim := { program := "ytkineiemgjandaa", sum := "3d78e876136c11aba1c29195f6627e508ddc83abce4431a1144792bad023f13d", func := "spillway/spillwaylaw.FrameDecodes", spec := "frameDecodes", unfollowed := true, recurses := true, apart := false }
def FrameDecodesSaid : Prop := frameDecodesRow.holds Try.pinned (OpenSpec.ofChange frameDecodesSpec)

/-- ITS FALSE NEIGHBOUR: 'it returns false'. Refute it at one input. -/
def frameDecodesWrong : ChangeSpec := { name := "frameDecodes", fn := fun _ => fun
  | [d] => { results := [.lit (.bool false)], args := [d] }
  | _ => none }
def FrameDecodesWrongFalsely : Prop := frameDecodesRow.holds Try.pinned (OpenSpec.ofChange frameDecodesWrong)

/-- 'spillwaylaw.FrameAlls': WHATEVER THE INPUT: true; the input reads as it did. -/
def frameAllsSpec : ChangeSpec := { name := "frameAlls", fn := fun _ => fun
  | [d] => { results := [.lit (.bool true)], args := [d] }
  | _ => none }
def frameAllsRow : OpenClaim := { program := "ytkineiemgjandaa", sum := "3d78e876136c11aba1c29195f6627e508ddc83abce4431a1144792bad023f13d", func := "spillway/spillwaylaw.FrameAlls", spec := "frameAlls", unfollowed := true, recurses := true, apart := false }
def FrameAllsSaid : Prop := frameAllsRow.holds Try.pinned (OpenSpec.ofChange frameAllsSpec)

/-- ITS FALSE NEIGHBOUR: 'it returns false'. Refute it at one input. -/
def frameAllsWrong : ChangeSpec := { name := "frameAlls", fn := fun _ => fun
  | [d] => { results := [.lit (.bool false)], args := [d] }
  | _ => none }
def FrameAllsWrongFalsely : Prop := frameAllsRow.holds Try.pinned (OpenSpec.ofChange frameAllsWrong)

/- THE SECOND FORM. 'bulk': how many values and letters a reading holds, each counted each time it is reached (what is shared counts as often as it is met; a slice's spare places count too). A statement '..UptoSaid' is the law's where the arguments, and the package variables that the reading takes, are together of bulk at most 1048576: NARROWER than '..Said'. Prove '..Said' where nothing that the law and all that it calls make is longer than what came in: it says more and counts as full. Else prove '..UptoSaid'. A law counts once. -/
mutual
def uptoBulk {H : Type} : DataW H → Nat
  | .lit (.string bytes) => bytes.length + 1
  | .lit _ => 1
  | .nil => 1
  | .ptr d => uptoBulk d + 1
  | .slice elems spare => uptoBulkAll elems + uptoBulkAll spare + 1
  | .agg parts => uptoBulkAll parts + 1
  | .iface _ d => uptoBulk d + 1
  | .map entries => uptoBulkEntries entries + 1
  | .held _ => 1
def uptoBulkAll {H : Type} : List (DataW H) → Nat
  | [] => 0
  | d :: r => uptoBulk d + uptoBulkAll r
def uptoBulkEntries {H : Type} : List (Lit × DataW H) → Nat
  | [] => 0
  | x :: r => uptoBulkEntry x + uptoBulkEntries r
def uptoBulkEntry {H : Type} : Lit × DataW H → Nat
  | (.string bytes, d) => bytes.length + uptoBulk d + 1
  | (_, d) => uptoBulk d + 1
 end
def uptoSmall : (H : Type) → List (DataW H) → Bool := fun _ ds => decide (uptoBulkAll ds ≤ 1048576)
def OpenSpec.upto (s : _root_.Go.ChangeSpec) : _root_.Go.OpenSpec := { _root_.Go.OpenSpec.ofChange s with cond := some uptoSmall }

/-- 'spillwaylaw.PrefixEncodes', WHERE WHAT IT READS IS OF BULK AT MOST 1048576: true; the input reads as it did. -/
def prefixEncodesUptoRow : OpenClaim := { program := "ytkineiemgjandaa", sum := "3d78e876136c11aba1c29195f6627e508ddc83abce4431a1144792bad023f13d", func := "spillway/spillwaylaw.PrefixEncodes", spec := "prefixEncodes", apart := false, narrowed := true }
def PrefixEncodesUptoSaid : Prop := prefixEncodesUptoRow.holds Try.pinned (OpenSpec.upto prefixEncodesSpec)

/-- 'spillwaylaw.LockSeals', WHERE WHAT IT READS IS OF BULK AT MOST 1048576: true; the input reads as it did. -/
def lockSealsUptoRow : OpenClaim := { program := "ytkineiemgjandaa", sum := "3d78e876136c11aba1c29195f6627e508ddc83abce4431a1144792bad023f13d", func := "spillway/spillwaylaw.LockSeals", spec := "lockSeals", apart := false, narrowed := true }
def LockSealsUptoSaid : Prop := lockSealsUptoRow.holds Try.pinned (OpenSpec.upto lockSealsSpec)

/-- 'spillwaylaw.LockOpens', WHERE WHAT IT READS IS OF BULK AT MOST 1048576: true; the input reads as it did. -/
def lockOpensUptoRow : OpenClaim := { program := "ytkineiemgjandaa", sum := "3d78e876136c11aba1c29195f6627e508ddc83abce4431a1144792bad023f13d", func := "spillway/spillwaylaw.LockOpens", spec := "lockOpens", apart := false, narrowed := true }
def LockOpensUptoSaid : Prop := lockOpensUptoRow.holds Try.pinned (OpenSpec.upto lockOpensSpec)

/-- 'spillwaylaw.SenderChecks', WHERE WHAT IT READS IS OF BULK AT MOST 1048576: true; the input reads as it did. -/
def senderChecksUptoRow : OpenClaim := { program := "ytkineiemgjandaa", sum := "3d78e876136c11aba1c29195f6627e508ddc83abce4431a1144792bad023f13d", func := "spillway/spillwaylaw.SenderChecks", spec := "senderChecks", apart := false, narrowed := true }
def SenderChecksUptoSaid : Prop := senderChecksUptoRow.holds Try.pinned (OpenSpec.upto senderChecksSpec)

/-- 'spillwaylaw.SenderWrites', WHERE WHAT IT READS IS OF BULK AT MOST 1048576: true; the input reads as it did. -/
def senderWritesUptoRow : OpenClaim := { program := "ytkineiemgjandaa", sum := "3d78e876136c11aba1c29195f6627e508ddc83abce4431a1144792bad023f13d", func := "spillway/spillwaylaw.SenderWrites", spec := "senderWrites", apart := false, narrowed := true }
def SenderWritesUptoSaid : Prop := senderWritesUptoRow.holds Try.pinned (OpenSpec.upto senderWritesSpec)

/-- 'spillwaylaw.SenderPieces', WHERE WHAT IT READS IS OF BULK AT MOST 1048576: true; the input reads as it did. -/
def senderPiecesUptoRow : OpenClaim := { program := "ytkineiemgjandaa", sum := "3d78e876136c11aba1c29195f6627e508ddc83abce4431a1144792bad023f13d", func := "spillway/spillwaylaw.SenderPieces", spec := "senderPieces", apart := false, narrowed := true }
def SenderPiecesUptoSaid : Prop := senderPiecesUptoRow.holds Try.pinned (OpenSpec.upto senderPiecesSpec)

/-- 'spillwaylaw.FrameChecks', WHERE WHAT IT READS IS OF BULK AT MOST 1048576: true; the input reads as it did. -/
def frameChecksUptoRow : OpenClaim := { program := "ytkineiemgjandaa", sum := "3d78e876136c11aba1c29195f6627e508ddc83abce4431a1144792bad023f13d", func := "spillway/spillwaylaw.FrameChecks", spec := "frameChecks", apart := false, narrowed := true }
def FrameChecksUptoSaid : Prop := frameChecksUptoRow.holds Try.pinned (OpenSpec.upto frameChecksSpec)

/-- 'spillwaylaw.HeadDecodes', WHERE WHAT IT READS IS OF BULK AT MOST 1048576: true; the input reads as it did. -/
def headDecodesUptoRow : OpenClaim := { program := "ytkineiemgjandaa", sum := "3d78e876136c11aba1c29195f6627e508ddc83abce4431a1144792bad023f13d", func := "spillway/spillwaylaw.HeadDecodes", spec := "headDecodes", apart := false, narrowed := true }
def HeadDecodesUptoSaid : Prop := headDecodesUptoRow.holds Try.pinned (OpenSpec.upto headDecodesSpec)

/-- 'spillwaylaw.HeadEncodes', WHERE WHAT IT READS IS OF BULK AT MOST 1048576: true; the input reads as it did. -/
def headEncodesUptoRow : OpenClaim := { program := "ytkineiemgjandaa", sum := "3d78e876136c11aba1c29195f6627e508ddc83abce4431a1144792bad023f13d", func := "spillway/spillwaylaw.HeadEncodes", spec := "headEncodes", unfollowed := true, recurses := true, apart := false, narrowed := true }
def HeadEncodesUptoSaid : Prop := headEncodesUptoRow.holds Try.pinned (OpenSpec.upto headEncodesSpec)

/-- 'spillwaylaw.FrameEncodes', WHERE WHAT IT READS IS OF BULK AT MOST 1048576: true; the input reads as it did. -/
def frameEncodesUptoRow : OpenClaim := { program := "ytkineiemgjandaa", sum := "3d78e876136c11aba1c29195f6627e508ddc83abce4431a1144792bad023f13d", func := "spillway/spillwaylaw.FrameEncodes", spec := "frameEncodes", apart := false, narrowed := true }
def FrameEncodesUptoSaid : Prop := frameEncodesUptoRow.holds Try.pinned (OpenSpec.upto frameEncodesSpec)

/-- 'spillwaylaw.FrameDecodes', WHERE WHAT IT READS IS OF BULK AT MOST 1048576: true; the input reads as it did. -/
def frameDecodesUptoRow : OpenClaim := { program := "ytkineiemgjandaa", sum := "3d78e876136c11aba1c29195f6627e508ddc83abce4431a1144792bad023f13d", func := "spillway/spillwaylaw.FrameDecodes", spec := "frameDecodes", unfollowed := true, recurses := true, apart := false, narrowed := true }
def FrameDecodesUptoSaid : Prop := frameDecodesUptoRow.holds Try.pinned (OpenSpec.upto frameDecodesSpec)

/-- 'spillwaylaw.FrameAlls', WHERE WHAT IT READS IS OF BULK AT MOST 1048576: true; the input reads as it did. -/
def frameAllsUptoRow : OpenClaim := { program := "ytkineiemgjandaa", sum := "3d78e876136c11aba1c29195f6627e508ddc83abce4431a1144792bad023f13d", func := "spillway/spillwaylaw.FrameAlls", spec := "frameAlls", unfollowed := true, recurses := true, apart := false, narrowed := true }
def FrameAllsUptoSaid : Prop := frameAllsUptoRow.holds Try.pinned (OpenSpec.upto frameAllsSpec)

end Rows
end Go.Proofs.Ytkineiemgjandaa
