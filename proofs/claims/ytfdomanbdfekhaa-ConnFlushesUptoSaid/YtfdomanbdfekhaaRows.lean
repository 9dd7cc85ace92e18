/-
  No cell of these rows narrows 'for every input' (looked for: loops, veiled, ifaces, maps, wideKeys, modest, calm, conditions, laid).
  DERIVED. THE GIVEN ROWS OF THIS SEAT. 8 by the template 'for every input the law returns true; each argument reads behind the call as it read before'; 0 by the template 'total and deterministic' (their statements: YtfdomanbdfekhaaTotals.lean).
  GIVEN WITH THE SEED: the statements are not yours to turn. If you find one false, say at which input.
  Laid BY PROGRAM, IN A SANDBOX (cutbox-rows.mjs): the forced cells as the released guide's own fill.sh prints them over the translation bc966e78e8ec1fa7… (all of the seat's roots in one cut). By AI agents, Wed Nov 11 2026. No macro, syntax, notation, axiom, sorry.
-/
import Derived.Test.YtfdomanbdfekhaaChecked
import GoSem.Claim
import GoSem.ClaimJoined
import GoSem.ClaimMapViews
import Derived.JoinedTies
import Derived.KernelRfl
namespace Go.Proofs.Ytfdomanbdfekhaa
/- THE CELL 'sum', in the pinned program and in every row, IS THE sha256 OF THE DUMP (.gsa) THAT YtfdomanbdfekhaaProg.lean LOADS. Nothing in Lean hashes anything: it is a label: what it is worth is what the hold of that sum in a sandbox is worth. -/
noncomputable def Try.pinned : Pinned := { name := "ytfdomanbdfekhaa", sum := "bc966e78e8ec1fa7fbeb16bacc7b9686ea28db8e6844d69b8d305e27b97d1b9a", checked := Try.checked }
namespace Rows
def none {H : Type} : Left H := { results := [], args := [] }

/-- 'spillwaylaw.PrefixEncodes': WHATEVER THE INPUT: true; the input reads as it did. -/
def prefixEncodesSpec : ChangeSpec := { name := "prefixEncodes", fn := fun _ => fun
  | [d1, d2, d3, d4] => { results := [.lit (.bool true)], args := [d1, d2, d3, d4] }
  | _ => none }
def prefixEncodesRow : OpenClaim := { program := "ytfdomanbdfekhaa", sum := "bc966e78e8ec1fa7fbeb16bacc7b9686ea28db8e6844d69b8d305e27b97d1b9a", func := "spillway/spillwaylaw.PrefixEncodes", spec := "prefixEncodes", apart := false }
def PrefixEncodesSaid : Prop := prefixEncodesRow.holds Try.pinned (OpenSpec.ofChange prefixEncodesSpec)

/-- ITS FALSE NEIGHBOUR: 'it returns false'. Refute it at one input. -/
def prefixEncodesWrong : ChangeSpec := { name := "prefixEncodes", fn := fun _ => fun
  | [d1, d2, d3, d4] => { results := [.lit (.bool false)], args := [d1, d2, d3, d4] }
  | _ => none }
def PrefixEncodesWrongFalsely : Prop := prefixEncodesRow.holds Try.pinned (OpenSpec.ofChange prefixEncodesWrong)

/-- 'spillwaylaw.GatherPuts': WHATEVER THE INPUT: true; the input reads as it did. -/
def gatherPutsSpec : ChangeSpec := { name := "gatherPuts", fn := fun _ => fun
  | [d1, d2, d3, d4] => { results := [.lit (.bool true)], args := [d1, d2, d3, d4] }
  | _ => none }
def gatherPutsRow : OpenClaim := { program := "ytfdomanbdfekhaa", sum := "bc966e78e8ec1fa7fbeb16bacc7b9686ea28db8e6844d69b8d305e27b97d1b9a", func := "spillway/spillwaylaw.GatherPuts", spec := "gatherPuts", unfollowed := true, recurses := true, apart := false }
def GatherPutsSaid : Prop := gatherPutsRow.holds Try.pinned (OpenSpec.ofChange gatherPutsSpec)

/-- ITS FALSE NEIGHBOUR: 'it returns false'. Refute it at one input. -/
def gatherPutsWrong : ChangeSpec := { name := "gatherPuts", fn := fun _ => fun
  | [d1, d2, d3, d4] => { results := [.lit (.bool false)], args := [d1, d2, d3, d4] }
  | _ => none }
def GatherPutsWrongFalsely : Prop := gatherPutsRow.holds Try.pinned (OpenSpec.ofChange gatherPutsWrong)

/-- 'spillwaylaw.GateChecks': WHATEVER THE INPUT: true; the input reads as it did. -/
def gateChecksSpec : ChangeSpec := { name := "gateChecks", fn := fun _ => fun
  | [d1, d2, d3] => { results := [.lit (.bool true)], args := [d1, d2, d3] }
  | _ => none }
def gateChecksRow : OpenClaim := { program := "ytfdomanbdfekhaa", sum := "bc966e78e8ec1fa7fbeb16bacc7b9686ea28db8e6844d69b8d305e27b97d1b9a", func := "spillway/spillwaylaw.GateChecks", spec := "gateChecks", apart := false }
def GateChecksSaid : Prop := gateChecksRow.holds Try.pinned (OpenSpec.ofChange gateChecksSpec)

/-- ITS FALSE NEIGHBOUR: 'it returns false'. Refute it at one input. -/
def gateChecksWrong : ChangeSpec := { name := "gateChecks", fn := fun _ => fun
  | [d1, d2, d3] => { results := [.lit (.bool false)], args := [d1, d2, d3] }
  | _ => none }
def GateChecksWrongFalsely : Prop := gateChecksRow.holds Try.pinned (OpenSpec.ofChange gateChecksWrong)

/-- 'spillwaylaw.ConnOpens': WHATEVER THE INPUT: true; the input reads as it did. -/
def connOpensSpec : ChangeSpec := { name := "connOpens", fn := fun _ => fun
  | [d] => { results := [.lit (.bool true)], args := [d] }
  | _ => none }
def connOpensRow : OpenClaim := { program := "ytfdomanbdfekhaa", sum := "bc966e78e8ec1fa7fbeb16bacc7b9686ea28db8e6844d69b8d305e27b97d1b9a", func := "spillway/spillwaylaw.ConnOpens", spec := "connOpens", apart := false }
def ConnOpensSaid : Prop := connOpensRow.holds Try.pinned (OpenSpec.ofChange connOpensSpec)

/-- ITS FALSE NEIGHBOUR: 'it returns false'. Refute it at one input. -/
def connOpensWrong : ChangeSpec := { name := "connOpens", fn := fun _ => fun
  | [d] => { results := [.lit (.bool false)], args := [d] }
  | _ => none }
def ConnOpensWrongFalsely : Prop := connOpensRow.holds Try.pinned (OpenSpec.ofChange connOpensWrong)

/-- 'spillwaylaw.ConnWrites': WHATEVER THE INPUT: true; the input reads as it did. -/
def connWritesSpec : ChangeSpec := { name := "connWrites", fn := fun _ => fun
  | [d1, d2, d3, d4] => { results := [.lit (.bool true)], args := [d1, d2, d3, d4] }
  | _ => none }
def connWritesRow : OpenClaim := { program := "ytfdomanbdfekhaa", sum := "bc966e78e8ec1fa7fbeb16bacc7b9686ea28db8e6844d69b8d305e27b97d1b9a", func := "spillway/spillwaylaw.ConnWrites", spec := "connWrites", apart := false }
def ConnWritesSaid : Prop := connWritesRow.holds Try.pinned (OpenSpec.ofChange connWritesSpec)

/-- ITS FALSE NEIGHBOUR: 'it returns false'. Refute it at one input. -/
def connWritesWrong : ChangeSpec := { name := "connWrites", fn := fun _ => fun
  | [d1, d2, d3, d4] => { results := [.lit (.bool false)], args := [d1, d2, d3, d4] }
  | _ => none }
def ConnWritesWrongFalsely : Prop := connWritesRow.holds Try.pinned (OpenSpec.ofChange connWritesWrong)

/-- 'spillwaylaw.ConnRetires': WHATEVER THE INPUT: true; the input reads as it did. -/
def connRetiresSpec : ChangeSpec := { name := "connRetires", fn := fun _ => fun
  | [d1, d2] => { results := [.lit (.bool true)], args := [d1, d2] }
  | _ => none }
def connRetiresRow : OpenClaim := { program := "ytfdomanbdfekhaa", sum := "bc966e78e8ec1fa7fbeb16bacc7b9686ea28db8e6844d69b8d305e27b97d1b9a", func := "spillway/spillwaylaw.ConnRetires", spec := "connRetires", apart := false }
def ConnRetiresSaid : Prop := connRetiresRow.holds Try.pinned (OpenSpec.ofChange connRetiresSpec)

/-- ITS FALSE NEIGHBOUR: 'it returns false'. Refute it at one input. -/
def connRetiresWrong : ChangeSpec := { name := "connRetires", fn := fun _ => fun
  | [d1, d2] => { results := [.lit (.bool false)], args := [d1, d2] }
  | _ => none }
def ConnRetiresWrongFalsely : Prop := connRetiresRow.holds Try.pinned (OpenSpec.ofChange connRetiresWrong)

/-- 'spillwaylaw.ClientBegins': WHATEVER THE INPUT: true; the input reads as it did. -/
def clientBeginsSpec : ChangeSpec := { name := "clientBegins", fn := fun _ => fun
  | [d1, d2, d3, d4, d5] => { results := [.lit (.bool true)], args := [d1, d2, d3, d4, d5] }
  | _ => none }
def clientBeginsRow : OpenClaim := { program := "ytfdomanbdfekhaa", sum := "bc966e78e8ec1fa7fbeb16bacc7b9686ea28db8e6844d69b8d305e27b97d1b9a", func := "spillway/spillwaylaw.ClientBegins", spec := "clientBegins", unfollowed := true, recurses := true, apart := false }
def ClientBeginsSaid : Prop := clientBeginsRow.holds Try.pinned (OpenSpec.ofChange clientBeginsSpec)

/-- ITS FALSE NEIGHBOUR: 'it returns false'. Refute it at one input. -/
def clientBeginsWrong : ChangeSpec := { name := "clientBegins", fn := fun _ => fun
  | [d1, d2, d3, d4, d5] => { results := [.lit (.bool false)], args := [d1, d2, d3, d4, d5] }
  | _ => none }
def ClientBeginsWrongFalsely : Prop := clientBeginsRow.holds Try.pinned (OpenSpec.ofChange clientBeginsWrong)

/-- 'spillwaylaw.ConnFlushes': WHATEVER THE INPUT: true; the input reads as it did. -/
def connFlushesSpec : ChangeSpec := { name := "connFlushes", fn := fun _ => fun
  | [d1, d2] => { results := [.lit (.bool true)], args := [d1, d2] }
  | _ => none }
def connFlushesRow : OpenClaim := { program := "ytfdomanbdfekhaa", sum := "bc966e78e8ec1fa7fbeb16bacc7b9686ea28db8e6844d69b8d305e27b97d1b9a", func := "spillway/spillwaylaw.ConnFlushes", spec := "connFlushes", apart := false }
def ConnFlushesSaid : Prop := connFlushesRow.holds Try.pinned (OpenSpec.ofChange connFlushesSpec)

/-- ITS FALSE NEIGHBOUR: 'it returns false'. Refute it at one input. -/
def connFlushesWrong : ChangeSpec := { name := "connFlushes", fn := fun _ => fun
  | [d1, d2] => { results := [.lit (.bool false)], args := [d1, d2] }
  | _ => none }
def ConnFlushesWrongFalsely : Prop := connFlushesRow.holds Try.pinned (OpenSpec.ofChange connFlushesWrong)

/- THE SECOND FORM. 'bulk': how many values and letters a reading holds, each counted each time it is reached (what is shared counts as often as it is met; a slice's spare places count too). A statement '..UptoSaid' is the law's where the arguments, and the package variables that the reading takes, are together of bulk at most 1048576: NARROWER than '..Said'. Prove '..Said' where nothing that the law and all that it calls make is longer than what came in: it says more and counts as full. Else prove '..UptoSaid'. A law counts once. -/
mutual
def uptoBulk {H : Type} : DataW H → Nat
  | .lit (.string bytes) => bytes.length + 1
  | .lit _ => 1
  | .nil => 1
  | .ptr d => uptoBulk d + 1
  | .slice elems spare => uptoBulkAll elems + uptoBulkAll spare + 1
  | .agg parts => uptoBulkAll parts + 1
  | .iface _ d => uptoBulk d + 1
  | .map entries => uptoBulkEntries entries + 1
  | .held _ => 1
def uptoBulkAll {H : Type} : List (DataW H) → Nat
  | [] => 0
  | d :: r => uptoBulk d + uptoBulkAll r
def uptoBulkEntries {H : Type} : List (Lit × DataW H) → Nat
  | [] => 0
  | x :: r => uptoBulkEntry x + uptoBulkEntries r
def uptoBulkEntry {H : Type} : Lit × DataW H → Nat
  | (.string bytes, d) => bytes.length + uptoBulk d + 1
  | (_, d) => uptoBulk d + 1
 end
def uptoSmall : (H : Type) → List (DataW H) → Bool := fun _ ds => decide (uptoBulkAll ds ≤ 1048576)
def OpenSpec.upto (s : _root_.Go.ChangeSpec) : _root_.Go.OpenSpec := { _root_.Go.OpenSpec.ofChange s with cond := some uptoSmall }

/-- 'spillwaylaw.PrefixEncodes', WHERE WHAT IT READS IS OF BULK AT MOST 1048576: true; the input reads as it did. -/
def prefixEncodesUptoRow : OpenClaim := { program := "ytfdomanbdfekhaa", sum := "bc966e78e8ec1fa7fbeb16bacc7b9686ea28db8e6844d69b8d305e27b97d1b9a", func := "spillway/spillwaylaw.PrefixEncodes", spec := "prefixEncodes", apart := false, narrowed := true }
def PrefixEncodesUptoSaid : Prop := prefixEncodesUptoRow.holds Try.pinned (OpenSpec.upto prefixEncodesSpec)

/-- 'spillwaylaw.GatherPuts', WHERE WHAT IT READS IS OF BULK AT MOST 1048576: true; the input reads as it did. -/
def gatherPutsUptoRow : OpenClaim := { program := "ytfdomanbdfekhaa", sum := "bc966e78e8ec1fa7fbeb16bacc7b9686ea28db8e6844d69b8d305e27b97d1b9a", func := "spillway/spillwaylaw.GatherPuts", spec := "gatherPuts", unfollowed := true, recurses := true, apart := false, narrowed := true }
def GatherPutsUptoSaid : Prop := gatherPutsUptoRow.holds Try.pinned (OpenSpec.upto gatherPutsSpec)

/-- 'spillwaylaw.GateChecks', WHERE WHAT IT READS IS OF BULK AT MOST 1048576: true; the input reads as it did. -/
def gateChecksUptoRow : OpenClaim := { program := "ytfdomanbdfekhaa", sum := "bc966e78e8ec1fa7fbeb16bacc7b9686ea28db8e6844d69b8d305e27b97d1b9a", func := "spillway/spillwaylaw.GateChecks", spec := "gateChecks", apart := false, narrowed := true }
def GateChecksUptoSaid : Prop := gateChecksUptoRow.holds Try.pinned (OpenSpec.upto gateChecksSpec)

/-- 'spillwaylaw.ConnOpens', WHERE WHAT IT READS IS OF BULK AT MOST 1048576: true; the input reads as it did. -/
def connOpensUptoRow : OpenClaim := { program := "ytfdomanbdfekhaa", sum := "bc966e78e8ec1fa7fbeb16bacc7b9686ea28db8e6844d69b8d305e27b97d1b9a", func := "spillway/spillwaylaw.ConnOpens", spec := "connOpens", apart := false, narrowed := true }
def ConnOpensUptoSaid : Prop := connOpensUptoRow.holds Try.pinned (OpenSpec.upto connOpensSpec)

/-- 'spillwaylaw.ConnWrites', WHERE WHAT IT READS IS OF BULK AT MOST 1048576: true; the input reads as it did. -/
def connWritesUptoRow : OpenClaim := { program := "ytfdomanbdfekhaa", sum := "bc966e78e8ec1fa7fbeb16bacc7b9686ea28db8e6844d69b8d305e27b97d1b9a", func := "spillway/spillwaylaw.ConnWrites", spec := "connWrites", apart := false, narrowed := true }
def ConnWritesUptoSaid : Prop := connWritesUptoRow.holds Try.pinned (OpenSpec.upto connWritesSpec)

/-- 'spillwaylaw.ConnRetires', WHERE WHAT IT READS IS OF BULK AT MOST 1048576: true; the input reads as it did. -/
def connRetiresUptoRow : OpenClaim := { program := "ytfdomanbdfekhaa", sum := "bc966e78e8ec1fa7fbeb16bacc7b9686ea28db8e6844d69b8d305e27b97d1b9a", func := "spillway/spillwaylaw.ConnRetires", spec := "connRetires", apart := false, narrowed := true }
def ConnRetiresUptoSaid : Prop := connRetiresUptoRow.holds Try.pinned (OpenSpec.upto connRetiresSpec)

/-- 'spillwaylaw.ClientBegins', WHERE WHAT IT READS IS OF BULK AT MOST 1048576: true; the input reads as it did. -/
def clientBeginsUptoRow : OpenClaim := { program := "ytfdomanbdfekhaa", sum := "bc966e78e8ec1fa7fbeb16bacc7b9686ea28db8e6844d69b8d305e27b97d1b9a", func := "spillway/spillwaylaw.ClientBegins", spec := "clientBegins", unfollowed := true, recurses := true, apart := false, narrowed := true }
def ClientBeginsUptoSaid : Prop := clientBeginsUptoRow.holds Try.pinned (OpenSpec.upto clientBeginsSpec)

/-- 'spillwaylaw.ConnFlushes', WHERE WHAT IT READS IS OF BULK AT MOST 1048576: true; the input reads as it did. -/
def connFlushesUptoRow : OpenClaim := { program := "ytfdomanbdfekhaa", sum := "bc966e78e8ec1fa7fbeb16bacc7b9686ea28db8e6844d69b8d305e27b97d1b9a", func := "spillway/spillwaylaw.ConnFlushes", spec := "connFlushes", apart := false, narrowed := true }
def ConnFlushesUptoSaid : Prop := connFlushesUptoRow.holds Try.pinned (OpenSpec.upto connFlushesSpec)

end Rows
end Go.Proofs.Ytfdomanbdfekhaa
