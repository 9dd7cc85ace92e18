/-
  No cell of these rows narrows 'for every input' (looked for: loops, veiled, ifaces, maps, wideKeys, modest, calm, conditions, laid).
  DERIVED. THE GIVEN ROWS OF THIS SEAT. 12 by the template 'for every input the law returns true; each argument reads behind the call as it read before'; 0 by the template 'total and deterministic' (their statements: YtmfpfpllipogiaaTotals.lean).
  GIVEN WITH THE SEED: the statements are not yours to turn. If you find one false, say at which input.
  Laid BY PROGRAM, IN A SANDBOX (cutbox-rows.mjs): the forced cells as the released guide's own fill.sh prints them over the translation 23fb3e67b1fbf0f6… (all of the seat's roots in one cut). By AI agents, Wed Nov 11 2026. No macro, syntax, notation, axiom, sorry.
-/
import Derived.Test.YtmfpfpllipogiaaChecked
import GoSem.Claim
import GoSem.ClaimJoined
import GoSem.ClaimMapViews
import Derived.JoinedTies
import Derived.KernelRfl
namespace Go.Proofs.Ytmfpfpllipogiaa
/- THE CELL 'sum', in the pinned program and in every row, IS THE sha256 OF THE DUMP (.gsa) THAT YtmfpfpllipogiaaProg.lean LOADS. Nothing in Lean hashes anything: it is a label: what it is worth is what the hold of that sum in a sandbox is worth. -/
noncomputable def Try.pinned : Pinned := { name := "ytmfpfpllipogiaa", sum := "23fb3e67b1fbf0f6610096e9823234fc7f5caed6e6eb3bec4e62206b90923161", checked := Try.checked }
namespace Rows
def none {H : Type} : Left H := { results := [], args := [] }

/-- 'spillwaylaw.Names': WHATEVER THE INPUT: true; the input reads as it did. -/
def namesSpec : ChangeSpec := { name := "names", fn := fun _ => fun
  | [] => { results := [.lit (.bool true)], args := [] }
  | _ => none }
def namesRow : OpenClaim := { program := "ytmfpfpllipogiaa", sum := "23fb3e67b1fbf0f6610096e9823234fc7f5caed6e6eb3bec4e62206b90923161", func := "spillway/spillwaylaw.Names", spec := "names", apart := false }
def NamesSaid : Prop := namesRow.holds Try.pinned (OpenSpec.ofChange namesSpec)

/-- ITS FALSE NEIGHBOUR: 'it returns false'. Refute it at one input. -/
def namesWrong : ChangeSpec := { name := "names", fn := fun _ => fun
  | [] => { results := [.lit (.bool false)], args := [] }
  | _ => none }
def NamesWrongFalsely : Prop := namesRow.holds Try.pinned (OpenSpec.ofChange namesWrong)

/-- 'spillwaylaw.LockMixes': WHATEVER THE INPUT: true; the input reads as it did. -/
def lockMixesSpec : ChangeSpec := { name := "lockMixes", fn := fun _ => fun
  | [d1, d2] => { results := [.lit (.bool true)], args := [d1, d2] }
  | _ => none }
def lockMixesRow : OpenClaim := { program := "ytmfpfpllipogiaa", sum := "23fb3e67b1fbf0f6610096e9823234fc7f5caed6e6eb3bec4e62206b90923161", func := "spillway/spillwaylaw.LockMixes", spec := "lockMixes", apart := false }
def LockMixesSaid : Prop := lockMixesRow.holds Try.pinned (OpenSpec.ofChange lockMixesSpec)

/-- ITS FALSE NEIGHBOUR: 'it returns false'. Refute it at one input. -/
def lockMixesWrong : ChangeSpec := { name := "lockMixes", fn := fun _ => fun
  | [d1, d2] => { results := [.lit (.bool false)], args := [d1, d2] }
  | _ => none }
def LockMixesWrongFalsely : Prop := lockMixesRow.holds Try.pinned (OpenSpec.ofChange lockMixesWrong)

/-- 'spillwaylaw.VarDecodes': WHATEVER THE INPUT: true; the input reads as it did. -/
def varDecodesSpec : ChangeSpec := { name := "varDecodes", fn := fun _ => fun
  | [d] => { results := [.lit (.bool true)], args := [d] }
  | _ => none }
def varDecodesRow : OpenClaim := { program := "ytmfpfpllipogiaa", sum := "23fb3e67b1fbf0f6610096e9823234fc7f5caed6e6eb3bec4e62206b90923161", func := "spillway/spillwaylaw.VarDecodes", spec := "varDecodes", apart := false }
def VarDecodesSaid : Prop := varDecodesRow.holds Try.pinned (OpenSpec.ofChange varDecodesSpec)

/-- ITS FALSE NEIGHBOUR: 'it returns false'. Refute it at one input. -/
def varDecodesWrong : ChangeSpec := { name := "varDecodes", fn := fun _ => fun
  | [d] => { results := [.lit (.bool false)], args := [d] }
  | _ => none }
def VarDecodesWrongFalsely : Prop := varDecodesRow.holds Try.pinned (OpenSpec.ofChange varDecodesWrong)

/-- 'spillwaylaw.PacknoCuts': WHATEVER THE INPUT: true; the input reads as it did. -/
def packnoCutsSpec : ChangeSpec := { name := "packnoCuts", fn := fun _ => fun
  | [d1, d2] => { results := [.lit (.bool true)], args := [d1, d2] }
  | _ => none }
def packnoCutsRow : OpenClaim := { program := "ytmfpfpllipogiaa", sum := "23fb3e67b1fbf0f6610096e9823234fc7f5caed6e6eb3bec4e62206b90923161", func := "spillway/spillwaylaw.PacknoCuts", spec := "packnoCuts", apart := false }
def PacknoCutsSaid : Prop := packnoCutsRow.holds Try.pinned (OpenSpec.ofChange packnoCutsSpec)

/-- ITS FALSE NEIGHBOUR: 'it returns false'. Refute it at one input. -/
def packnoCutsWrong : ChangeSpec := { name := "packnoCuts", fn := fun _ => fun
  | [d1, d2] => { results := [.lit (.bool false)], args := [d1, d2] }
  | _ => none }
def PacknoCutsWrongFalsely : Prop := packnoCutsRow.holds Try.pinned (OpenSpec.ofChange packnoCutsWrong)

/-- 'spillwaylaw.FlowGrants': WHATEVER THE INPUT: true; the input reads as it did. -/
def flowGrantsSpec : ChangeSpec := { name := "flowGrants", fn := fun _ => fun
  | [d1, d2] => { results := [.lit (.bool true)], args := [d1, d2] }
  | _ => none }
def flowGrantsRow : OpenClaim := { program := "ytmfpfpllipogiaa", sum := "23fb3e67b1fbf0f6610096e9823234fc7f5caed6e6eb3bec4e62206b90923161", func := "spillway/spillwaylaw.FlowGrants", spec := "flowGrants", apart := false }
def FlowGrantsSaid : Prop := flowGrantsRow.holds Try.pinned (OpenSpec.ofChange flowGrantsSpec)

/-- ITS FALSE NEIGHBOUR: 'it returns false'. Refute it at one input. -/
def flowGrantsWrong : ChangeSpec := { name := "flowGrants", fn := fun _ => fun
  | [d1, d2] => { results := [.lit (.bool false)], args := [d1, d2] }
  | _ => none }
def FlowGrantsWrongFalsely : Prop := flowGrantsRow.holds Try.pinned (OpenSpec.ofChange flowGrantsWrong)

/-- 'spillwaylaw.FlowSpends': WHATEVER THE INPUT: true; the input reads as it did. -/
def flowSpendsSpec : ChangeSpec := { name := "flowSpends", fn := fun _ => fun
  | [d1, d2] => { results := [.lit (.bool true)], args := [d1, d2] }
  | _ => none }
def flowSpendsRow : OpenClaim := { program := "ytmfpfpllipogiaa", sum := "23fb3e67b1fbf0f6610096e9823234fc7f5caed6e6eb3bec4e62206b90923161", func := "spillway/spillwaylaw.FlowSpends", spec := "flowSpends", apart := false }
def FlowSpendsSaid : Prop := flowSpendsRow.holds Try.pinned (OpenSpec.ofChange flowSpendsSpec)

/-- ITS FALSE NEIGHBOUR: 'it returns false'. Refute it at one input. -/
def flowSpendsWrong : ChangeSpec := { name := "flowSpends", fn := fun _ => fun
  | [d1, d2] => { results := [.lit (.bool false)], args := [d1, d2] }
  | _ => none }
def FlowSpendsWrongFalsely : Prop := flowSpendsRow.holds Try.pinned (OpenSpec.ofChange flowSpendsWrong)

/-- 'spillwaylaw.RangesChecks': WHATEVER THE INPUT: true; the input reads as it did. -/
def rangesChecksSpec : ChangeSpec := { name := "rangesChecks", fn := fun _ => fun
  | [d1, d2] => { results := [.lit (.bool true)], args := [d1, d2] }
  | _ => none }
def rangesChecksRow : OpenClaim := { program := "ytmfpfpllipogiaa", sum := "23fb3e67b1fbf0f6610096e9823234fc7f5caed6e6eb3bec4e62206b90923161", func := "spillway/spillwaylaw.RangesChecks", spec := "rangesChecks", apart := false }
def RangesChecksSaid : Prop := rangesChecksRow.holds Try.pinned (OpenSpec.ofChange rangesChecksSpec)

/-- ITS FALSE NEIGHBOUR: 'it returns false'. Refute it at one input. -/
def rangesChecksWrong : ChangeSpec := { name := "rangesChecks", fn := fun _ => fun
  | [d1, d2] => { results := [.lit (.bool false)], args := [d1, d2] }
  | _ => none }
def RangesChecksWrongFalsely : Prop := rangesChecksRow.holds Try.pinned (OpenSpec.ofChange rangesChecksWrong)

/-- 'spillwaylaw.TokenMakes': WHATEVER THE INPUT: true; the input reads as it did. -/
def tokenMakesSpec : ChangeSpec := { name := "tokenMakes", fn := fun _ => fun
  | [d1, d2, d3] => { results := [.lit (.bool true)], args := [d1, d2, d3] }
  | _ => none }
def tokenMakesRow : OpenClaim := { program := "ytmfpfpllipogiaa", sum := "23fb3e67b1fbf0f6610096e9823234fc7f5caed6e6eb3bec4e62206b90923161", func := "spillway/spillwaylaw.TokenMakes", spec := "tokenMakes", apart := false }
def TokenMakesSaid : Prop := tokenMakesRow.holds Try.pinned (OpenSpec.ofChange tokenMakesSpec)

/-- ITS FALSE NEIGHBOUR: 'it returns false'. Refute it at one input. -/
def tokenMakesWrong : ChangeSpec := { name := "tokenMakes", fn := fun _ => fun
  | [d1, d2, d3] => { results := [.lit (.bool false)], args := [d1, d2, d3] }
  | _ => none }
def TokenMakesWrongFalsely : Prop := tokenMakesRow.holds Try.pinned (OpenSpec.ofChange tokenMakesWrong)

/-- 'spillwaylaw.GatherChecks': WHATEVER THE INPUT: true; the input reads as it did. -/
def gatherChecksSpec : ChangeSpec := { name := "gatherChecks", fn := fun _ => fun
  | [d1, d2] => { results := [.lit (.bool true)], args := [d1, d2] }
  | _ => none }
def gatherChecksRow : OpenClaim := { program := "ytmfpfpllipogiaa", sum := "23fb3e67b1fbf0f6610096e9823234fc7f5caed6e6eb3bec4e62206b90923161", func := "spillway/spillwaylaw.GatherChecks", spec := "gatherChecks", apart := false }
def GatherChecksSaid : Prop := gatherChecksRow.holds Try.pinned (OpenSpec.ofChange gatherChecksSpec)

/-- ITS FALSE NEIGHBOUR: 'it returns false'. Refute it at one input. -/
def gatherChecksWrong : ChangeSpec := { name := "gatherChecks", fn := fun _ => fun
  | [d1, d2] => { results := [.lit (.bool false)], args := [d1, d2] }
  | _ => none }
def GatherChecksWrongFalsely : Prop := gatherChecksRow.holds Try.pinned (OpenSpec.ofChange gatherChecksWrong)

/-- 'spillwaylaw.PacknoWholes': WHATEVER THE INPUT: true; the input reads as it did. -/
def packnoWholesSpec : ChangeSpec := { name := "packnoWholes", fn := fun _ => fun
  | [d1, d2] => { results := [.lit (.bool true)], args := [d1, d2] }
  | _ => none }
def packnoWholesRow : OpenClaim := { program := "ytmfpfpllipogiaa", sum := "23fb3e67b1fbf0f6610096e9823234fc7f5caed6e6eb3bec4e62206b90923161", func := "spillway/spillwaylaw.PacknoWholes", spec := "packnoWholes", apart := false }
def PacknoWholesSaid : Prop := packnoWholesRow.holds Try.pinned (OpenSpec.ofChange packnoWholesSpec)

/-- ITS FALSE NEIGHBOUR: 'it returns false'. Refute it at one input. -/
def packnoWholesWrong : ChangeSpec := { name := "packnoWholes", fn := fun _ => fun
  | [d1, d2] => { results := [.lit (.bool false)], args := [d1, d2] }
  | _ => none }
def PacknoWholesWrongFalsely : Prop := packnoWholesRow.holds Try.pinned (OpenSpec.ofChange packnoWholesWrong)

/-- 'spillwaylaw.GateKeys': WHATEVER THE INPUT: true; the input reads as it did. -/
def gateKeysSpec : ChangeSpec := { name := "gateKeys", fn := fun _ => fun
  | [d1, d2, d3, d4] => { results := [.lit (.bool true)], args := [d1, d2, d3, d4] }
  | _ => none }
def gateKeysRow : OpenClaim := { program := "ytmfpfpllipogiaa", sum := "23fb3e67b1fbf0f6610096e9823234fc7f5caed6e6eb3bec4e62206b90923161", func := "spillway/spillwaylaw.GateKeys", spec := "gateKeys", apart := false }
def GateKeysSaid : Prop := gateKeysRow.holds Try.pinned (OpenSpec.ofChange gateKeysSpec)

/-- ITS FALSE NEIGHBOUR: 'it returns false'. Refute it at one input. -/
def gateKeysWrong : ChangeSpec := { name := "gateKeys", fn := fun _ => fun
  | [d1, d2, d3, d4] => { results := [.lit (.bool false)], args := [d1, d2, d3, d4] }
  | _ => none }
def GateKeysWrongFalsely : Prop := gateKeysRow.holds Try.pinned (OpenSpec.ofChange gateKeysWrong)

/-- 'spillwaylaw.PaceSends': WHATEVER THE INPUT: true; the input reads as it did. -/
def paceSendsSpec : ChangeSpec := { name := "paceSends", fn := fun _ => fun
  | [d1, d2] => { results := [.lit (.bool true)], args := [d1, d2] }
  | _ => none }
def paceSendsRow : OpenClaim := { program := "ytmfpfpllipogiaa", sum := "23fb3e67b1fbf0f6610096e9823234fc7f5caed6e6eb3bec4e62206b90923161", func := "spillway/spillwaylaw.PaceSends", spec := "paceSends", apart := false }
def PaceSendsSaid : Prop := paceSendsRow.holds Try.pinned (OpenSpec.ofChange paceSendsSpec)

/-- ITS FALSE NEIGHBOUR: 'it returns false'. Refute it at one input. -/
def paceSendsWrong : ChangeSpec := { name := "paceSends", fn := fun _ => fun
  | [d1, d2] => { results := [.lit (.bool false)], args := [d1, d2] }
  | _ => none }
def PaceSendsWrongFalsely : Prop := paceSendsRow.holds Try.pinned (OpenSpec.ofChange paceSendsWrong)

/- THE SECOND FORM. 'bulk': how many values and letters a reading holds, each counted each time it is reached (what is shared counts as often as it is met; a slice's spare places count too). A statement '..UptoSaid' is the law's where the arguments, and the package variables that the reading takes, are together of bulk at most 1048576: NARROWER than '..Said'. Prove '..Said' where nothing that the law and all that it calls make is longer than what came in: it says more and counts as full. Else prove '..UptoSaid'. A law counts once. -/
mutual
def uptoBulk {H : Type} : DataW H → Nat
  | .lit (.string bytes) => bytes.length + 1
  | .lit _ => 1
  | .nil => 1
  | .ptr d => uptoBulk d + 1
  | .slice elems spare => uptoBulkAll elems + uptoBulkAll spare + 1
  | .agg parts => uptoBulkAll parts + 1
  | .iface _ d => uptoBulk d + 1
  | .map entries => uptoBulkEntries entries + 1
  | .held _ => 1
def uptoBulkAll {H : Type} : List (DataW H) → Nat
  | [] => 0
  | d :: r => uptoBulk d + uptoBulkAll r
def uptoBulkEntries {H : Type} : List (Lit × DataW H) → Nat
  | [] => 0
  | x :: r => uptoBulkEntry x + uptoBulkEntries r
def uptoBulkEntry {H : Type} : Lit × DataW H → Nat
  | (.string bytes, d) => bytes.length + uptoBulk d + 1
  | (_, d) => uptoBulk d + 1
 end
def uptoSmall : (H : Type) → List (DataW H) → Bool := fun _ ds => decide (uptoBulkAll ds ≤ 1048576)
def OpenSpec.upto (s : _root_.Go.ChangeSpec) : _root_.Go.OpenSpec := { _root_.Go.OpenSpec.ofChange s with cond := some uptoSmall }

/-- 'spillwaylaw.Names', WHERE WHAT IT READS IS OF BULK AT MOST 1048576: true; the input reads as it did. -/
def namesUptoRow : OpenClaim := { program := "ytmfpfpllipogiaa", sum := "23fb3e67b1fbf0f6610096e9823234fc7f5caed6e6eb3bec4e62206b90923161", func := "spillway/spillwaylaw.Names", spec := "names", apart := false, narrowed := true }
def NamesUptoSaid : Prop := namesUptoRow.holds Try.pinned (OpenSpec.upto namesSpec)

/-- 'spillwaylaw.LockMixes', WHERE WHAT IT READS IS OF BULK AT MOST 1048576: true; the input reads as it did. -/
def lockMixesUptoRow : OpenClaim := { program := "ytmfpfpllipogiaa", sum := "23fb3e67b1fbf0f6610096e9823234fc7f5caed6e6eb3bec4e62206b90923161", func := "spillway/spillwaylaw.LockMixes", spec := "lockMixes", apart := false, narrowed := true }
def LockMixesUptoSaid : Prop := lockMixesUptoRow.holds Try.pinned (OpenSpec.upto lockMixesSpec)

/-- 'spillwaylaw.VarDecodes', WHERE WHAT IT READS IS OF BULK AT MOST 1048576: true; the input reads as it did. -/
def varDecodesUptoRow : OpenClaim := { program := "ytmfpfpllipogiaa", sum := "23fb3e67b1fbf0f6610096e9823234fc7f5caed6e6eb3bec4e62206b90923161", func := "spillway/spillwaylaw.VarDecodes", spec := "varDecodes", apart := false, narrowed := true }
def VarDecodesUptoSaid : Prop := varDecodesUptoRow.holds Try.pinned (OpenSpec.upto varDecodesSpec)

/-- 'spillwaylaw.PacknoCuts', WHERE WHAT IT READS IS OF BULK AT MOST 1048576: true; the input reads as it did. -/
def packnoCutsUptoRow : OpenClaim := { program := "ytmfpfpllipogiaa", sum := "23fb3e67b1fbf0f6610096e9823234fc7f5caed6e6eb3bec4e62206b90923161", func := "spillway/spillwaylaw.PacknoCuts", spec := "packnoCuts", apart := false, narrowed := true }
def PacknoCutsUptoSaid : Prop := packnoCutsUptoRow.holds Try.pinned (OpenSpec.upto packnoCutsSpec)

/-- 'spillwaylaw.FlowGrants', WHERE WHAT IT READS IS OF BULK AT MOST 1048576: true; the input reads as it did. -/
def flowGrantsUptoRow : OpenClaim := { program := "ytmfpfpllipogiaa", sum := "23fb3e67b1fbf0f6610096e9823234fc7f5caed6e6eb3bec4e62206b90923161", func := "spillway/spillwaylaw.FlowGrants", spec := "flowGrants", apart := false, narrowed := true }
def FlowGrantsUptoSaid : Prop := flowGrantsUptoRow.holds Try.pinned (OpenSpec.upto flowGrantsSpec)

/-- 'spillwaylaw.FlowSpends', WHERE WHAT IT READS IS OF BULK AT MOST 1048576: true; the input reads as it did. -/
def flowSpendsUptoRow : OpenClaim := { program := "ytmfpfpllipogiaa", sum := "23fb3e67b1fbf0f6610096e9823234fc7f5caed6e6eb3bec4e62206b90923161", func := "spillway/spillwaylaw.FlowSpends", spec := "flowSpends", apart := false, narrowed := true }
def FlowSpendsUptoSaid : Prop := flowSpendsUptoRow.holds Try.pinned (OpenSpec.upto flowSpendsSpec)

/-- 'spillwaylaw.RangesChecks', WHERE WHAT IT READS IS OF BULK AT MOST 1048576: true; the input reads as it did. -/
def rangesChecksUptoRow : OpenClaim := { program := "ytmfpfpllipogiaa", sum := "23fb3e67b1fbf0f6610096e9823234fc7f5caed6e6eb3bec4e62206b90923161", func := "spillway/spillwaylaw.RangesChecks", spec := "rangesChecks", apart := false, narrowed := true }
def RangesChecksUptoSaid : Prop := rangesChecksUptoRow.holds Try.pinned (OpenSpec.upto rangesChecksSpec)

/-- 'spillwaylaw.TokenMakes', WHERE WHAT IT READS IS OF BULK AT MOST 1048576: true; the input reads as it did. -/
def tokenMakesUptoRow : OpenClaim := { program := "ytmfpfpllipogiaa", sum := "23fb3e67b1fbf0f6610096e9823234fc7f5caed6e6eb3bec4e62206b90923161", func := "spillway/spillwaylaw.TokenMakes", spec := "tokenMakes", apart := false, narrowed := true }
def TokenMakesUptoSaid : Prop := tokenMakesUptoRow.holds Try.pinned (OpenSpec.upto tokenMakesSpec)

/-- 'spillwaylaw.GatherChecks', WHERE WHAT IT READS IS OF BULK AT MOST 1048576: true; the input reads as it did. -/
def gatherChecksUptoRow : OpenClaim := { program := "ytmfpfpllipogiaa", sum := "23fb3e67b1fbf0f6610096e9823234fc7f5caed6e6eb3bec4e62206b90923161", func := "spillway/spillwaylaw.GatherChecks", spec := "gatherChecks", apart := false, narrowed := true }
def GatherChecksUptoSaid : Prop := gatherChecksUptoRow.holds Try.pinned (OpenSpec.upto gatherChecksSpec)

/-- 'spillwaylaw.PacknoWholes', WHERE WHAT IT READS IS OF BULK AT MOST 1048576: true; the input reads as it did. -/
def packnoWholesUptoRow : OpenClaim := { program := "ytmfpfpllipogiaa", sum := "23fb3e67b1fbf0f6610096e9823234fc7f5caed6e6eb3bec4e62206b90923161", func := "spillway/spillwaylaw.PacknoWholes", spec := "packnoWholes", apart := false, narrowed := true }
def PacknoWholesUptoSaid : Prop := packnoWholesUptoRow.holds Try.pinned (OpenSpec.upto packnoWholesSpec)

/-- 'spillwaylaw.GateKeys', WHERE WHAT IT READS IS OF BULK AT MOST 1048576: true; the input reads as it did. -/
def gateKeysUptoRow : OpenClaim := { program := "ytmfpfpllipogiaa", sum := "23fb3e67b1fbf0f6610096e9823234fc7f5caed6e6eb3bec4e62206b90923161", func := "spillway/spillwaylaw.GateKeys", spec := "gateKeys", apart := false, narrowed := true }
def GateKeysUptoSaid : Prop := gateKeysUptoRow.holds Try.pinned (OpenSpec.upto gateKeysSpec)

/-- 'spillwaylaw.PaceSends', WHERE WHAT IT READS IS OF BULK AT MOST 1048576: true; the input reads as it did. -/
def paceSendsUptoRow : OpenClaim := { program := "ytmfpfpllipogiaa", sum := "23fb3e67b1fbf0f6610096e9823234fc7f5caed6e6eb3bec4e62206b90923161", func := "spillway/spillwaylaw.PaceSends", spec := "paceSends", apart := false, narrowed := true }
def PaceSendsUptoSaid : Prop := paceSendsUptoRow.holds Try.pinned (OpenSpec.upto paceSendsSpec)

end Rows
end Go.Proofs.Ytmfpfpllipogiaa
