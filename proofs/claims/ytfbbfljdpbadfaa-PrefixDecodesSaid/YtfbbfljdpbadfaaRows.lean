/-
  No cell of these rows narrows 'for every input' (looked for: loops, veiled, ifaces, maps, wideKeys, modest, calm, conditions, laid).
  DERIVED. THE GIVEN ROWS OF THIS SEAT. 12 by the template 'for every input the law returns true; each argument reads behind the call as it read before'; 0 by the template 'total and deterministic' (their statements: YtfbbfljdpbadfaaTotals.lean).
  GIVEN WITH THE SEED: the statements are not yours to turn. If you find one false, say at which input.
  Laid BY PROGRAM, IN A SANDBOX (cutbox-rows.mjs): the forced cells as the released guide's own fill.sh prints them over the translation 54d948c202645eab… (all of the seat's roots in one cut). By AI agents, Wed Nov 11 2026. No macro, syntax, notation, axiom, sorry.
-/
import Derived.Test.YtfbbfljdpbadfaaChecked
import GoSem.Claim
import GoSem.ClaimJoined
import GoSem.ClaimMapViews
import Derived.JoinedTies
import Derived.KernelRfl
namespace Go.Proofs.Ytfbbfljdpbadfaa
/- THE CELL 'sum', in the pinned program and in every row, IS THE sha256 OF THE DUMP (.gsa) THAT YtfbbfljdpbadfaaProg.lean LOADS. Nothing in Lean hashes anything: it is a label: what it is worth is what the hold of that sum in a sandbox is worth. -/
noncomputable def Try.pinned : Pinned := { name := "ytfbbfljdpbadfaa", sum := "54d948c202645eab868beaabcb146f9973d61ef485da276a1ac04f9de59266c8", checked := Try.checked }
namespace Rows
def none {H : Type} : Left H := { results := [], args := [] }

/-- 'spillwaylaw.GatherChecks': WHATEVER THE INPUT: true; the input reads as it did. -/
def gatherChecksSpec : ChangeSpec := { name := "gatherChecks", fn := fun _ => fun
  | [d1, d2] => { results := [.lit (.bool true)], args := [d1, d2] }
  | _ => none }
def gatherChecksRow : OpenClaim := { program := "ytfbbfljdpbadfaa", sum := "54d948c202645eab868beaabcb146f9973d61ef485da276a1ac04f9de59266c8", func := "spillway/spillwaylaw.GatherChecks", spec := "gatherChecks", apart := false }
def GatherChecksSaid : Prop := gatherChecksRow.holds Try.pinned (OpenSpec.ofChange gatherChecksSpec)

/-- ITS FALSE NEIGHBOUR: 'it returns false'. Refute it at one input. -/
def gatherChecksWrong : ChangeSpec := { name := "gatherChecks", fn := fun _ => fun
  | [d1, d2] => { results := [.lit (.bool false)], args := [d1, d2] }
  | _ => none }
def GatherChecksWrongFalsely : Prop := gatherChecksRow.holds Try.pinned (OpenSpec.ofChange gatherChecksWrong)

/-- 'spillwaylaw.PrefixEncodes': WHATEVER THE INPUT: true; the input reads as it did. -/
def prefixEncodesSpec : ChangeSpec := { name := "prefixEncodes", fn := fun _ => fun
  | [d1, d2, d3, d4] => { results := [.lit (.bool true)], args := [d1, d2, d3, d4] }
  | _ => none }
def prefixEncodesRow : OpenClaim := { program := "ytfbbfljdpbadfaa", sum := "54d948c202645eab868beaabcb146f9973d61ef485da276a1ac04f9de59266c8", func := "spillway/spillwaylaw.PrefixEncodes", spec := "prefixEncodes", apart := false }
def PrefixEncodesSaid : Prop := prefixEncodesRow.holds Try.pinned (OpenSpec.ofChange prefixEncodesSpec)

/-- ITS FALSE NEIGHBOUR: 'it returns false'. Refute it at one input. -/
def prefixEncodesWrong : ChangeSpec := { name := "prefixEncodes", fn := fun _ => fun
  | [d1, d2, d3, d4] => { results := [.lit (.bool false)], args := [d1, d2, d3, d4] }
  | _ => none }
def PrefixEncodesWrongFalsely : Prop := prefixEncodesRow.holds Try.pinned (OpenSpec.ofChange prefixEncodesWrong)

/-- 'spillwaylaw.LockSeals': WHATEVER THE INPUT: true; the input reads as it did. -/
def lockSealsSpec : ChangeSpec := { name := "lockSeals", fn := fun _ => fun
  | [d1, d2, d3, d4] => { results := [.lit (.bool true)], args := [d1, d2, d3, d4] }
  | _ => none }
def lockSealsRow : OpenClaim := { program := "ytfbbfljdpbadfaa", sum := "54d948c202645eab868beaabcb146f9973d61ef485da276a1ac04f9de59266c8", func := "spillway/spillwaylaw.LockSeals", spec := "lockSeals", apart := false }
def LockSealsSaid : Prop := lockSealsRow.holds Try.pinned (OpenSpec.ofChange lockSealsSpec)

/-- ITS FALSE NEIGHBOUR: 'it returns false'. Refute it at one input. -/
def lockSealsWrong : ChangeSpec := { name := "lockSeals", fn := fun _ => fun
  | [d1, d2, d3, d4] => { results := [.lit (.bool false)], args := [d1, d2, d3, d4] }
  | _ => none }
def LockSealsWrongFalsely : Prop := lockSealsRow.holds Try.pinned (OpenSpec.ofChange lockSealsWrong)

/-- 'spillwaylaw.VarSizes': WHATEVER THE INPUT: true; the input reads as it did. -/
def varSizesSpec : ChangeSpec := { name := "varSizes", fn := fun _ => fun
  | [d] => { results := [.lit (.bool true)], args := [d] }
  | _ => none }
def varSizesRow : OpenClaim := { program := "ytfbbfljdpbadfaa", sum := "54d948c202645eab868beaabcb146f9973d61ef485da276a1ac04f9de59266c8", func := "spillway/spillwaylaw.VarSizes", spec := "varSizes", apart := false }
def VarSizesSaid : Prop := varSizesRow.holds Try.pinned (OpenSpec.ofChange varSizesSpec)

/-- ITS FALSE NEIGHBOUR: 'it returns false'. Refute it at one input. -/
def varSizesWrong : ChangeSpec := { name := "varSizes", fn := fun _ => fun
  | [d] => { results := [.lit (.bool false)], args := [d] }
  | _ => none }
def VarSizesWrongFalsely : Prop := varSizesRow.holds Try.pinned (OpenSpec.ofChange varSizesWrong)

/-- 'spillwaylaw.PaceLoses': WHATEVER THE INPUT: true; the input reads as it did. -/
def paceLosesSpec : ChangeSpec := { name := "paceLoses", fn := fun _ => fun
  | [d1, d2, d3, d4] => { results := [.lit (.bool true)], args := [d1, d2, d3, d4] }
  | _ => none }
def paceLosesRow : OpenClaim := { program := "ytfbbfljdpbadfaa", sum := "54d948c202645eab868beaabcb146f9973d61ef485da276a1ac04f9de59266c8", func := "spillway/spillwaylaw.PaceLoses", spec := "paceLoses", apart := false }
def PaceLosesSaid : Prop := paceLosesRow.holds Try.pinned (OpenSpec.ofChange paceLosesSpec)

/-- ITS FALSE NEIGHBOUR: 'it returns false'. Refute it at one input. -/
def paceLosesWrong : ChangeSpec := { name := "paceLoses", fn := fun _ => fun
  | [d1, d2, d3, d4] => { results := [.lit (.bool false)], args := [d1, d2, d3, d4] }
  | _ => none }
def PaceLosesWrongFalsely : Prop := paceLosesRow.holds Try.pinned (OpenSpec.ofChange paceLosesWrong)

/-- 'spillwaylaw.SenderChecks': WHATEVER THE INPUT: true; the input reads as it did. -/
def senderChecksSpec : ChangeSpec := { name := "senderChecks", fn := fun _ => fun
  | [d] => { results := [.lit (.bool true)], args := [d] }
  | _ => none }
def senderChecksRow : OpenClaim := { program := "ytfbbfljdpbadfaa", sum := "54d948c202645eab868beaabcb146f9973d61ef485da276a1ac04f9de59266c8", func := "spillway/spillwaylaw.SenderChecks", spec := "senderChecks", apart := false }
def SenderChecksSaid : Prop := senderChecksRow.holds Try.pinned (OpenSpec.ofChange senderChecksSpec)

/-- ITS FALSE NEIGHBOUR: 'it returns false'. Refute it at one input. -/
def senderChecksWrong : ChangeSpec := { name := "senderChecks", fn := fun _ => fun
  | [d] => { results := [.lit (.bool false)], args := [d] }
  | _ => none }
def SenderChecksWrongFalsely : Prop := senderChecksRow.holds Try.pinned (OpenSpec.ofChange senderChecksWrong)

/-- 'spillwaylaw.GatherWidens': WHATEVER THE INPUT: true; the input reads as it did. -/
def gatherWidensSpec : ChangeSpec := { name := "gatherWidens", fn := fun _ => fun
  | [d1, d2] => { results := [.lit (.bool true)], args := [d1, d2] }
  | _ => none }
def gatherWidensRow : OpenClaim := { program := "ytfbbfljdpbadfaa", sum := "54d948c202645eab868beaabcb146f9973d61ef485da276a1ac04f9de59266c8", func := "spillway/spillwaylaw.GatherWidens", spec := "gatherWidens", apart := false }
def GatherWidensSaid : Prop := gatherWidensRow.holds Try.pinned (OpenSpec.ofChange gatherWidensSpec)

/-- ITS FALSE NEIGHBOUR: 'it returns false'. Refute it at one input. -/
def gatherWidensWrong : ChangeSpec := { name := "gatherWidens", fn := fun _ => fun
  | [d1, d2] => { results := [.lit (.bool false)], args := [d1, d2] }
  | _ => none }
def GatherWidensWrongFalsely : Prop := gatherWidensRow.holds Try.pinned (OpenSpec.ofChange gatherWidensWrong)

/-- 'spillwaylaw.LockOpens': WHATEVER THE INPUT: true; the input reads as it did. -/
def lockOpensSpec : ChangeSpec := { name := "lockOpens", fn := fun _ => fun
  | [d1, d2, d3, d4] => { results := [.lit (.bool true)], args := [d1, d2, d3, d4] }
  | _ => none }
def lockOpensRow : OpenClaim := { program := "ytfbbfljdpbadfaa", sum := "54d948c202645eab868beaabcb146f9973d61ef485da276a1ac04f9de59266c8", func := "spillway/spillwaylaw.LockOpens", spec := "lockOpens", apart := false }
def LockOpensSaid : Prop := lockOpensRow.holds Try.pinned (OpenSpec.ofChange lockOpensSpec)

/-- ITS FALSE NEIGHBOUR: 'it returns false'. Refute it at one input. -/
def lockOpensWrong : ChangeSpec := { name := "lockOpens", fn := fun _ => fun
  | [d1, d2, d3, d4] => { results := [.lit (.bool false)], args := [d1, d2, d3, d4] }
  | _ => none }
def LockOpensWrongFalsely : Prop := lockOpensRow.holds Try.pinned (OpenSpec.ofChange lockOpensWrong)

/-- 'spillwaylaw.GatherTakes': WHATEVER THE INPUT: true; the input reads as it did. -/
def gatherTakesSpec : ChangeSpec := { name := "gatherTakes", fn := fun _ => fun
  | [d] => { results := [.lit (.bool true)], args := [d] }
  | _ => none }
def gatherTakesRow : OpenClaim := { program := "ytfbbfljdpbadfaa", sum := "54d948c202645eab868beaabcb146f9973d61ef485da276a1ac04f9de59266c8", func := "spillway/spillwaylaw.GatherTakes", spec := "gatherTakes", apart := false }
def GatherTakesSaid : Prop := gatherTakesRow.holds Try.pinned (OpenSpec.ofChange gatherTakesSpec)

/-- ITS FALSE NEIGHBOUR: 'it returns false'. Refute it at one input. -/
def gatherTakesWrong : ChangeSpec := { name := "gatherTakes", fn := fun _ => fun
  | [d] => { results := [.lit (.bool false)], args := [d] }
  | _ => none }
def GatherTakesWrongFalsely : Prop := gatherTakesRow.holds Try.pinned (OpenSpec.ofChange gatherTakesWrong)

/-- 'spillwaylaw.PrefixDecodes': WHATEVER THE INPUT: true; the input reads as it did. -/
def prefixDecodesSpec : ChangeSpec := { name := "prefixDecodes", fn := fun _ => fun
  | [d1, d2] => { results := [.lit (.bool true)], args := [d1, d2] }
  | _ => none }
def prefixDecodesRow : OpenClaim := { program := "ytfbbfljdpbadfaa", sum := "54d948c202645eab868beaabcb146f9973d61ef485da276a1ac04f9de59266c8", func := "spillway/spillwaylaw.PrefixDecodes", spec := "prefixDecodes", apart := false }
def PrefixDecodesSaid : Prop := prefixDecodesRow.holds Try.pinned (OpenSpec.ofChange prefixDecodesSpec)

/-- ITS FALSE NEIGHBOUR: 'it returns false'. Refute it at one input. -/
def prefixDecodesWrong : ChangeSpec := { name := "prefixDecodes", fn := fun _ => fun
  | [d1, d2] => { results := [.lit (.bool false)], args := [d1, d2] }
  | _ => none }
def PrefixDecodesWrongFalsely : Prop := prefixDecodesRow.holds Try.pinned (OpenSpec.ofChange prefixDecodesWrong)

/-- 'spillwaylaw.TableResizes': WHATEVER THE INPUT: true; the input reads as it did. -/
def tableResizesSpec : ChangeSpec := { name := "tableResizes", fn := fun _ => fun
  | [d1, d2] => { results := [.lit (.bool true)], args := [d1, d2] }
  | _ => none }
def tableResizesRow : OpenClaim := { program := "ytfbbfljdpbadfaa", sum := "54d948c202645eab868beaabcb146f9973d61ef485da276a1ac04f9de59266c8", func := "spillway/spillwaylaw.TableResizes", spec := "tableResizes", apart := false }
def TableResizesSaid : Prop := tableResizesRow.holds Try.pinned (OpenSpec.ofChange tableResizesSpec)

/-- ITS FALSE NEIGHBOUR: 'it returns false'. Refute it at one input. -/
def tableResizesWrong : ChangeSpec := { name := "tableResizes", fn := fun _ => fun
  | [d1, d2] => { results := [.lit (.bool false)], args := [d1, d2] }
  | _ => none }
def TableResizesWrongFalsely : Prop := tableResizesRow.holds Try.pinned (OpenSpec.ofChange tableResizesWrong)

/-- 'spillwaylaw.RangesCuts': WHATEVER THE INPUT: true; the input reads as it did. -/
def rangesCutsSpec : ChangeSpec := { name := "rangesCuts", fn := fun _ => fun
  | [d1, d2] => { results := [.lit (.bool true)], args := [d1, d2] }
  | _ => none }
def rangesCutsRow : OpenClaim := { program := "ytfbbfljdpbadfaa", sum := "54d948c202645eab868beaabcb146f9973d61ef485da276a1ac04f9de59266c8", func := "spillway/spillwaylaw.RangesCuts", spec := "rangesCuts", apart := false }
def RangesCutsSaid : Prop := rangesCutsRow.holds Try.pinned (OpenSpec.ofChange rangesCutsSpec)

/-- ITS FALSE NEIGHBOUR: 'it returns false'. Refute it at one input. -/
def rangesCutsWrong : ChangeSpec := { name := "rangesCuts", fn := fun _ => fun
  | [d1, d2] => { results := [.lit (.bool false)], args := [d1, d2] }
  | _ => none }
def RangesCutsWrongFalsely : Prop := rangesCutsRow.holds Try.pinned (OpenSpec.ofChange rangesCutsWrong)

/- THE SECOND FORM. 'bulk': how many values and letters a reading holds, each counted each time it is reached (what is shared counts as often as it is met; a slice's spare places count too). A statement '..UptoSaid' is the law's where the arguments, and the package variables that the reading takes, are together of bulk at most 1048576: NARROWER than '..Said'. Prove '..Said' where nothing that the law and all that it calls make is longer than what came in: it says more and counts as full. Else prove '..UptoSaid'. A law counts once. -/
mutual
def uptoBulk {H : Type} : DataW H → Nat
  | .lit (.string bytes) => bytes.length + 1
  | .lit _ => 1
  | .nil => 1
  | .ptr d => uptoBulk d + 1
  | .slice elems spare => uptoBulkAll elems + uptoBulkAll spare + 1
  | .agg parts => uptoBulkAll parts + 1
  | .iface _ d => uptoBulk d + 1
  | .map entries => uptoBulkEntries entries + 1
  | .held _ => 1
def uptoBulkAll {H : Type} : List (DataW H) → Nat
  | [] => 0
  | d :: r => uptoBulk d + uptoBulkAll r
def uptoBulkEntries {H : Type} : List (Lit × DataW H) → Nat
  | [] => 0
  | x :: r => uptoBulkEntry x + uptoBulkEntries r
def uptoBulkEntry {H : Type} : Lit × DataW H → Nat
  | (.string bytes, d) => bytes.length + uptoBulk d + 1
  | (_, d) => uptoBulk d + 1
 end
def uptoSmall : (H : Type) → List (DataW H) → Bool := fun _ ds => decide (uptoBulkAll ds ≤ 1048576)
def OpenSpec.upto (s : _root_.Go.ChangeSpec) : _root_.Go.OpenSpec := { _root_.Go.OpenSpec.ofChange s with cond := some uptoSmall }

/-- 'spillwaylaw.GatherChecks', WHERE WHAT IT READS IS OF BULK AT MOST 1048576: true; the input reads as it did. -/
def gatherChecksUptoRow : OpenClaim := { program := "ytfbbfljdpbadfaa", sum := "54d948c202645eab868beaabcb146f9973d61ef485da276a1ac04f9de59266c8", func := "spillway/spillwaylaw.GatherChecks", spec := "gatherChecks", apart := false, narrowed := true }
def GatherChecksUptoSaid : Prop := gatherChecksUptoRow.holds Try.pinned (OpenSpec.upto gatherChecksSpec)

/-- 'spillwaylaw.PrefixEncodes', WHERE WHAT IT READS IS OF BULK AT MOST 1048576: true; the input reads as it did. -/
def prefixEncodesUptoRow : OpenClaim := { program := "ytfbbfljdpbadfaa", sum := "54d948c202645eab868beaabcb146f9973d61ef485da276a1ac04f9de59266c8", func := "spillway/spillwaylaw.PrefixEncodes", spec := "prefixEncodes", apart := false, narrowed := true }
def PrefixEncodesUptoSaid : Prop := prefixEncodesUptoRow.holds Try.pinned (OpenSpec.upto prefixEncodesSpec)

/-- 'spillwaylaw.LockSeals', WHERE WHAT IT READS IS OF BULK AT MOST 1048576: true; the input reads as it did. -/
def lockSealsUptoRow : OpenClaim := { program := "ytfbbfljdpbadfaa", sum := "54d948c202645eab868beaabcb146f9973d61ef485da276a1ac04f9de59266c8", func := "spillway/spillwaylaw.LockSeals", spec := "lockSeals", apart := false, narrowed := true }
def LockSealsUptoSaid : Prop := lockSealsUptoRow.holds Try.pinned (OpenSpec.upto lockSealsSpec)

/-- 'spillwaylaw.VarSizes', WHERE WHAT IT READS IS OF BULK AT MOST 1048576: true; the input reads as it did. -/
def varSizesUptoRow : OpenClaim := { program := "ytfbbfljdpbadfaa", sum := "54d948c202645eab868beaabcb146f9973d61ef485da276a1ac04f9de59266c8", func := "spillway/spillwaylaw.VarSizes", spec := "varSizes", apart := false, narrowed := true }
def VarSizesUptoSaid : Prop := varSizesUptoRow.holds Try.pinned (OpenSpec.upto varSizesSpec)

/-- 'spillwaylaw.PaceLoses', WHERE WHAT IT READS IS OF BULK AT MOST 1048576: true; the input reads as it did. -/
def paceLosesUptoRow : OpenClaim := { program := "ytfbbfljdpbadfaa", sum := "54d948c202645eab868beaabcb146f9973d61ef485da276a1ac04f9de59266c8", func := "spillway/spillwaylaw.PaceLoses", spec := "paceLoses", apart := false, narrowed := true }
def PaceLosesUptoSaid : Prop := paceLosesUptoRow.holds Try.pinned (OpenSpec.upto paceLosesSpec)

/-- 'spillwaylaw.SenderChecks', WHERE WHAT IT READS IS OF BULK AT MOST 1048576: true; the input reads as it did. -/
def senderChecksUptoRow : OpenClaim := { program := "ytfbbfljdpbadfaa", sum := "54d948c202645eab868beaabcb146f9973d61ef485da276a1ac04f9de59266c8", func := "spillway/spillwaylaw.SenderChecks", spec := "senderChecks", apart := false, narrowed := true }
def SenderChecksUptoSaid : Prop := senderChecksUptoRow.holds Try.pinned (OpenSpec.upto senderChecksSpec)

/-- 'spillwaylaw.GatherWidens', WHERE WHAT IT READS IS OF BULK AT MOST 1048576: true; the input reads as it did. -/
def gatherWidensUptoRow : OpenClaim := { program := "ytfbbfljdpbadfaa", sum := "54d948c202645eab868beaabcb146f9973d61ef485da276a1ac04f9de59266c8", func := "spillway/spillwaylaw.GatherWidens", spec := "gatherWidens", apart := false, narrowed := true }
def GatherWidensUptoSaid : Prop := gatherWidensUptoRow.holds Try.pinned (OpenSpec.upto gatherWidensSpec)

/-- 'spillwaylaw.LockOpens', WHERE WHAT IT READS IS OF BULK AT MOST 1048576: true; the input reads as it did. -/
def lockOpensUptoRow : OpenClaim := { program := "ytfbbfljdpbadfaa", sum := "54d948c202645eab868beaabcb146f9973d61ef485da276a1ac04f9de59266c8", func := "spillway/spillwaylaw.LockOpens", spec := "lockOpens", apart := false, narrowed := true }
def LockOpensUptoSaid : Prop := lockOpensUptoRow.holds Try.pinned (OpenSpec.upto lockOpensSpec)

/-- 'spillwaylaw.GatherTakes', WHERE WHAT IT READS IS OF BULK AT MOST 1048576: true; the input reads as it did. -/
def gatherTakesUptoRow : OpenClaim := { program := "ytfbbfljdpbadfaa", sum := "54d948c202645eab868beaabcb146f9973d61ef485da276a1ac04f9de59266c8", func := "spillway/spillwaylaw.GatherTakes", spec := "gatherTakes", apart := false, narrowed := true }
def GatherTakesUptoSaid : Prop := gatherTakesUptoRow.holds Try.pinned (OpenSpec.upto gatherTakesSpec)

/-- 'spillwaylaw.PrefixDecodes', WHERE WHAT IT READS IS OF BULK AT MOST 1048576: true; the input reads as it did. -/
def prefixDecodesUptoRow : OpenClaim := { program := "ytfbbfljdpbadfaa", sum := "54d948c202645eab868beaabcb146f9973d61ef485da276a1ac04f9de59266c8", func := "spillway/spillwaylaw.PrefixDecodes", spec := "prefixDecodes", apart := false, narrowed := true }
def PrefixDecodesUptoSaid : Prop := prefixDecodesUptoRow.holds Try.pinned (OpenSpec.upto prefixDecodesSpec)

/-- 'spillwaylaw.TableResizes', WHERE WHAT IT READS IS OF BULK AT MOST 1048576: true; the input reads as it did. -/
def tableResizesUptoRow : OpenClaim := { program := "ytfbbfljdpbadfaa", sum := "54d948c202645eab868beaabcb146f9973d61ef485da276a1ac04f9de59266c8", func := "spillway/spillwaylaw.TableResizes", spec := "tableResizes", apart := false, narrowed := true }
def TableResizesUptoSaid : Prop := tableResizesUptoRow.holds Try.pinned (OpenSpec.upto tableResizesSpec)

/-- 'spillwaylaw.RangesCuts', WHERE WHAT IT READS IS OF BULK AT MOST 1048576: true; the input reads as it did. -/
def rangesCutsUptoRow : OpenClaim := { program := "ytfbbfljdpbadfaa", sum := "54d948c202645eab868beaabcb146f9973d61ef485da276a1ac04f9de59266c8", func := "spillway/spillwaylaw.RangesCuts", spec := "rangesCuts", apart := false, narrowed := true }
def RangesCutsUptoSaid : Prop := rangesCutsUptoRow.holds Try.pinned (OpenSpec.upto rangesCutsSpec)

end Rows
end Go.Proofs.Ytfbbfljdpbadfaa
