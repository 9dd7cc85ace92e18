/-
  No cell of these rows narrows 'for every input' (looked for: loops, veiled, ifaces, maps, wideKeys, modest, calm, conditions, laid).
  DERIVED. THE GIVEN ROWS OF THIS SEAT. 7 by the template 'for every input the law returns true; each argument reads behind the call as it read before'; 0 by the template 'total and deterministic' (their statements: YtendheafcbickaaGreatTotals.lean).
  GIVEN WITH THE SEED: the statements are not yours to turn. If you find one false, say at which input.
  Laid BY PROGRAM, IN A SANDBOX (cutbox-rows.mjs): the forced cells as the released guide's own fill.sh prints them over the translation a3d4eae727a26e7f… (all of the seat's roots in one cut). By AI agents, Wed Nov 11 2026. No macro, syntax, notation, axiom, sorry.
-/
import Derived.Test.YtendheafcbickaaGreatChecked
import GoSem.Claim
import GoSem.ClaimJoined
import GoSem.ClaimMapViews
import Derived.JoinedTies
import Derived.KernelRfl
namespace Go.Proofs.YtendheafcbickaaGreat
/- THE CELL 'sum', in the pinned program and in every row, IS THE sha256 OF THE DUMP (.gsa) THAT YtendheafcbickaaGreatProg.lean LOADS. Nothing in Lean hashes anything: it is a label: what it is worth is what the hold of that sum in a sandbox is worth. -/
noncomputable def Tryz.pinned : Pinned := { name := "ytendheafcbickaagreat", sum := "a3d4eae727a26e7f57036f7ac60700194397448bc130ad914387eadbde6d664c", checked := Tryz.checked }
namespace Rows
def none {H : Type} : Left H := { results := [], args := [] }

/-- 'spillwaylaw.GateAnswers': WHATEVER THE INPUT: true; the input reads as it did. -/
def gateAnswersSpec : ChangeSpec := { name := "gateAnswers", fn := fun _ => fun
  | [d1, d2, d3, d4] => { results := [.lit (.bool true)], args := [d1, d2, d3, d4] }
  | _ => none }
def gateAnswersRow : OpenClaim := { program := "ytendheafcbickaagreat", sum := "a3d4eae727a26e7f57036f7ac60700194397448bc130ad914387eadbde6d664c", func := "spillway/spillwaylaw.GateAnswers", spec := "gateAnswers", unfollowed := true, recurses := true, apart := false }
def GateAnswersSaid : Prop := gateAnswersRow.holds Tryz.pinned (OpenSpec.ofChange gateAnswersSpec)

/-- ITS FALSE NEIGHBOUR: 'it returns false'. Refute it at one input. -/
def gateAnswersWrong : ChangeSpec := { name := "gateAnswers", fn := fun _ => fun
  | [d1, d2, d3, d4] => { results := [.lit (.bool false)], args := [d1, d2, d3, d4] }
  | _ => none }
def GateAnswersWrongFalsely : Prop := gateAnswersRow.holds Tryz.pinned (OpenSpec.ofChange gateAnswersWrong)

/-- 'spillwaylaw.GateTicks': WHATEVER THE INPUT: true; the input reads as it did. -/
def gateTicksSpec : ChangeSpec := { name := "gateTicks", fn := fun _ => fun
  | [d1, d2] => { results := [.lit (.bool true)], args := [d1, d2] }
  | _ => none }
def gateTicksRow : OpenClaim := { program := "ytendheafcbickaagreat", sum := "a3d4eae727a26e7f57036f7ac60700194397448bc130ad914387eadbde6d664c", func := "spillway/spillwaylaw.GateTicks", spec := "gateTicks", inPlace := ["internal/reflectlite.ValueOf", "internal/reflectlite.Swapper", "(internal/reflectlite.Value).Len"], unfollowed := true, recurses := true, apart := false }
def GateTicksSaid : Prop := gateTicksRow.holds Tryz.pinned (OpenSpec.ofChange gateTicksSpec)

/-- ITS FALSE NEIGHBOUR: 'it returns false'. Refute it at one input. -/
def gateTicksWrong : ChangeSpec := { name := "gateTicks", fn := fun _ => fun
  | [d1, d2] => { results := [.lit (.bool false)], args := [d1, d2] }
  | _ => none }
def GateTicksWrongFalsely : Prop := gateTicksRow.holds Tryz.pinned (OpenSpec.ofChange gateTicksWrong)

/-- 'spillwaylaw.ClientAsks': WHATEVER THE INPUT: true; the input reads as it did. -/
def clientAsksSpec : ChangeSpec := { name := "clientAsks", fn := fun _ => fun
  | [d1, d2, d3] => { results := [.lit (.bool true)], args := [d1, d2, d3] }
  | _ => none }
def clientAsksRow : OpenClaim := { program := "ytendheafcbickaagreat", sum := "a3d4eae727a26e7f57036f7ac60700194397448bc130ad914387eadbde6d664c", func := "spillway/spillwaylaw.ClientAsks", spec := "clientAsks", inPlace := ["internal/reflectlite.ValueOf", "internal/reflectlite.Swapper", "(internal/reflectlite.Value).Len"], unfollowed := true, recurses := true, apart := false }
def ClientAsksSaid : Prop := clientAsksRow.holds Tryz.pinned (OpenSpec.ofChange clientAsksSpec)

/-- ITS FALSE NEIGHBOUR: 'it returns false'. Refute it at one input. -/
def clientAsksWrong : ChangeSpec := { name := "clientAsks", fn := fun _ => fun
  | [d1, d2, d3] => { results := [.lit (.bool false)], args := [d1, d2, d3] }
  | _ => none }
def ClientAsksWrongFalsely : Prop := clientAsksRow.holds Tryz.pinned (OpenSpec.ofChange clientAsksWrong)

/-- 'spillwaylaw.ConnHears': WHATEVER THE INPUT: true; the input reads as it did. -/
def connHearsSpec : ChangeSpec := { name := "connHears", fn := fun _ => fun
  | [d1, d2, d3, d4] => { results := [.lit (.bool true)], args := [d1, d2, d3, d4] }
  | _ => none }
def connHearsRow : OpenClaim := { program := "ytendheafcbickaagreat", sum := "a3d4eae727a26e7f57036f7ac60700194397448bc130ad914387eadbde6d664c", func := "spillway/spillwaylaw.ConnHears", spec := "connHears", inPlace := ["internal/reflectlite.ValueOf", "internal/reflectlite.Swapper", "(internal/reflectlite.Value).Len"], unfollowed := true, recurses := true, apart := false }
def ConnHearsSaid : Prop := connHearsRow.holds Tryz.pinned (OpenSpec.ofChange connHearsSpec)

/-- ITS FALSE NEIGHBOUR: 'it returns false'. Refute it at one input. -/
def connHearsWrong : ChangeSpec := { name := "connHears", fn := fun _ => fun
  | [d1, d2, d3, d4] => { results := [.lit (.bool false)], args := [d1, d2, d3, d4] }
  | _ => none }
def ConnHearsWrongFalsely : Prop := connHearsRow.holds Tryz.pinned (OpenSpec.ofChange connHearsWrong)

/-- 'spillwaylaw.ClientHears': WHATEVER THE INPUT: true; the input reads as it did. -/
def clientHearsSpec : ChangeSpec := { name := "clientHears", fn := fun _ => fun
  | [d1, d2, d3] => { results := [.lit (.bool true)], args := [d1, d2, d3] }
  | _ => none }
def clientHearsRow : OpenClaim := { program := "ytendheafcbickaagreat", sum := "a3d4eae727a26e7f57036f7ac60700194397448bc130ad914387eadbde6d664c", func := "spillway/spillwaylaw.ClientHears", spec := "clientHears", inPlace := ["internal/reflectlite.ValueOf", "internal/reflectlite.Swapper", "(internal/reflectlite.Value).Len"], unfollowed := true, recurses := true, apart := false }
def ClientHearsSaid : Prop := clientHearsRow.holds Tryz.pinned (OpenSpec.ofChange clientHearsSpec)

/-- ITS FALSE NEIGHBOUR: 'it returns false'. Refute it at one input. -/
def clientHearsWrong : ChangeSpec := { name := "clientHears", fn := fun _ => fun
  | [d1, d2, d3] => { results := [.lit (.bool false)], args := [d1, d2, d3] }
  | _ => none }
def ClientHearsWrongFalsely : Prop := clientHearsRow.holds Tryz.pinned (OpenSpec.ofChange clientHearsWrong)

/-- 'spillwaylaw.GateHears': WHATEVER THE INPUT: true; the input reads as it did. -/
def gateHearsSpec : ChangeSpec := { name := "gateHears", fn := fun _ => fun
  | [d1, d2, d3] => { results := [.lit (.bool true)], args := [d1, d2, d3] }
  | _ => none }
def gateHearsRow : OpenClaim := { program := "ytendheafcbickaagreat", sum := "a3d4eae727a26e7f57036f7ac60700194397448bc130ad914387eadbde6d664c", func := "spillway/spillwaylaw.GateHears", spec := "gateHears", inPlace := ["internal/reflectlite.ValueOf", "internal/reflectlite.Swapper", "(internal/reflectlite.Value).Len"], unfollowed := true, recurses := true, apart := false }
def GateHearsSaid : Prop := gateHearsRow.holds Tryz.pinned (OpenSpec.ofChange gateHearsSpec)

/-- ITS FALSE NEIGHBOUR: 'it returns false'. Refute it at one input. -/
def gateHearsWrong : ChangeSpec := { name := "gateHears", fn := fun _ => fun
  | [d1, d2, d3] => { results := [.lit (.bool false)], args := [d1, d2, d3] }
  | _ => none }
def GateHearsWrongFalsely : Prop := gateHearsRow.holds Tryz.pinned (OpenSpec.ofChange gateHearsWrong)

/-- 'spillwaylaw.WorldRuns': WHATEVER THE INPUT: true; the input reads as it did. -/
def worldRunsSpec : ChangeSpec := { name := "worldRuns", fn := fun _ => fun
  | [d1, d2, d3] => { results := [.lit (.bool true)], args := [d1, d2, d3] }
  | _ => none }
def worldRunsRow : OpenClaim := { program := "ytendheafcbickaagreat", sum := "a3d4eae727a26e7f57036f7ac60700194397448bc130ad914387eadbde6d664c", func := "spillway/spillwaylaw.WorldRuns", spec := "worldRuns", inPlace := ["internal/reflectlite.ValueOf", "internal/reflectlite.Swapper", "(internal/reflectlite.Value).Len"], unfollowed := true, recurses := true, apart := false }
def WorldRunsSaid : Prop := worldRunsRow.holds Tryz.pinned (OpenSpec.ofChange worldRunsSpec)

/-- ITS FALSE NEIGHBOUR: 'it returns false'. Refute it at one input. -/
def worldRunsWrong : ChangeSpec := { name := "worldRuns", fn := fun _ => fun
  | [d1, d2, d3] => { results := [.lit (.bool false)], args := [d1, d2, d3] }
  | _ => none }
def WorldRunsWrongFalsely : Prop := worldRunsRow.holds Tryz.pinned (OpenSpec.ofChange worldRunsWrong)

/- THE SECOND FORM. 'bulk': how many values and letters a reading holds, each counted each time it is reached (what is shared counts as often as it is met; a slice's spare places count too). A statement '..UptoSaid' is the law's where the arguments, and the package variables that the reading takes, are together of bulk at most 1048576: NARROWER than '..Said'. Prove '..Said' where nothing that the law and all that it calls make is longer than what came in: it says more and counts as full. Else prove '..UptoSaid'. A law counts once. -/
mutual
def uptoBulk {H : Type} : DataW H → Nat
  | .lit (.string bytes) => bytes.length + 1
  | .lit _ => 1
  | .nil => 1
  | .ptr d => uptoBulk d + 1
  | .slice elems spare => uptoBulkAll elems + uptoBulkAll spare + 1
  | .agg parts => uptoBulkAll parts + 1
  | .iface _ d => uptoBulk d + 1
  | .map entries => uptoBulkEntries entries + 1
  | .held _ => 1
def uptoBulkAll {H : Type} : List (DataW H) → Nat
  | [] => 0
  | d :: r => uptoBulk d + uptoBulkAll r
def uptoBulkEntries {H : Type} : List (Lit × DataW H) → Nat
  | [] => 0
  | x :: r => uptoBulkEntry x + uptoBulkEntries r
def uptoBulkEntry {H : Type} : Lit × DataW H → Nat
  | (.string bytes, d) => bytes.length + uptoBulk d + 1
  | (_, d) => uptoBulk d + 1
 end
def uptoSmall : (H : Type) → List (DataW H) → Bool := fun _ ds => decide (uptoBulkAll ds ≤ 1048576)
def OpenSpec.upto (s : _root_.Go.ChangeSpec) : _root_.Go.OpenSpec := { _root_.Go.OpenSpec.ofChange s with cond := some uptoSmall }

/-- 'spillwaylaw.GateAnswers', WHERE WHAT IT READS IS OF BULK AT MOST 1048576: true; the input reads as it did. -/
def gateAnswersUptoRow : OpenClaim := { program := "ytendheafcbickaagreat", sum := "a3d4eae727a26e7f57036f7ac60700194397448bc130ad914387eadbde6d664c", func := "spillway/spillwaylaw.GateAnswers", spec := "gateAnswers", unfollowed := true, recurses := true, apart := false, narrowed := true }
def GateAnswersUptoSaid : Prop := gateAnswersUptoRow.holds Tryz.pinned (OpenSpec.upto gateAnswersSpec)

/-- 'spillwaylaw.GateTicks', WHERE WHAT IT READS IS OF BULK AT MOST 1048576: true; the input reads as it did. -/
def gateTicksUptoRow : OpenClaim := { program := "ytendheafcbickaagreat", sum := "a3d4eae727a26e7f57036f7ac60700194397448bc130ad914387eadbde6d664c", func := "spillway/spillwaylaw.GateTicks", spec := "gateTicks", inPlace := ["internal/reflectlite.ValueOf", "internal/reflectlite.Swapper", "(internal/reflectlite.Value).Len"], unfollowed := true, recurses := true, apart := false, narrowed := true }
def GateTicksUptoSaid : Prop := gateTicksUptoRow.holds Tryz.pinned (OpenSpec.upto gateTicksSpec)

/-- 'spillwaylaw.ClientAsks', WHERE WHAT IT READS IS OF BULK AT MOST 1048576: true; the input reads as it did. -/
def clientAsksUptoRow : OpenClaim := { program := "ytendheafcbickaagreat", sum := "a3d4eae727a26e7f57036f7ac60700194397448bc130ad914387eadbde6d664c", func := "spillway/spillwaylaw.ClientAsks", spec := "clientAsks", inPlace := ["internal/reflectlite.ValueOf", "internal/reflectlite.Swapper", "(internal/reflectlite.Value).Len"], unfollowed := true, recurses := true, apart := false, narrowed := true }
def ClientAsksUptoSaid : Prop := clientAsksUptoRow.holds Tryz.pinned (OpenSpec.upto clientAsksSpec)

/-- 'spillwaylaw.ConnHears', WHERE WHAT IT READS IS OF BULK AT MOST 1048576: true; the input reads as it did. -/
def connHearsUptoRow : OpenClaim := { program := "ytendheafcbickaagreat", sum := "a3d4eae727a26e7f57036f7ac60700194397448bc130ad914387eadbde6d664c", func := "spillway/spillwaylaw.ConnHears", spec := "connHears", inPlace := ["internal/reflectlite.ValueOf", "internal/reflectlite.Swapper", "(internal/reflectlite.Value).Len"], unfollowed := true, recurses := true, apart := false, narrowed := true }
def ConnHearsUptoSaid : Prop := connHearsUptoRow.holds Tryz.pinned (OpenSpec.upto connHearsSpec)

/-- 'spillwaylaw.ClientHears', WHERE WHAT IT READS IS OF BULK AT MOST 1048576: true; the input reads as it did. -/
def clientHearsUptoRow : OpenClaim := { program := "ytendheafcbickaagreat", sum := "a3d4eae727a26e7f57036f7ac60700194397448bc130ad914387eadbde6d664c", func := "spillway/spillwaylaw.ClientHears", spec := "clientHears", inPlace := ["internal/reflectlite.ValueOf", "internal/reflectlite.Swapper", "(internal/reflectlite.Value).Len"], unfollowed := true, recurses := true, apart := false, narrowed := true }
def ClientHearsUptoSaid : Prop := clientHearsUptoRow.holds Tryz.pinned (OpenSpec.upto clientHearsSpec)

/-- 'spillwaylaw.GateHears', WHERE WHAT IT READS IS OF BULK AT MOST 1048576: true; the input reads as it did. -/
def gateHearsUptoRow : OpenClaim := { program := "ytendheafcbickaagreat", sum := "a3d4eae727a26e7f57036f7ac60700194397448bc130ad914387eadbde6d664c", func := "spillway/spillwaylaw.GateHears", spec := "gateHears", inPlace := ["internal/reflectlite.ValueOf", "internal/reflectlite.Swapper", "(internal/reflectlite.Value).Len"], unfollowed := true, recurses := true, apart := false, narrowed := true }
def GateHearsUptoSaid : Prop := gateHearsUptoRow.holds Tryz.pinned (OpenSpec.upto gateHearsSpec)

/-- 'spillwaylaw.WorldRuns', WHERE WHAT IT READS IS OF BULK AT MOST 1048576: true; the input reads as it did. -/
def worldRunsUptoRow : OpenClaim := { program := "ytendheafcbickaagreat", sum := "a3d4eae727a26e7f57036f7ac60700194397448bc130ad914387eadbde6d664c", func := "spillway/spillwaylaw.WorldRuns", spec := "worldRuns", inPlace := ["internal/reflectlite.ValueOf", "internal/reflectlite.Swapper", "(internal/reflectlite.Value).Len"], unfollowed := true, recurses := true, apart := false, narrowed := true }
def WorldRunsUptoSaid : Prop := worldRunsUptoRow.holds Tryz.pinned (OpenSpec.upto worldRunsSpec)

end Rows
end Go.Proofs.YtendheafcbickaaGreat
