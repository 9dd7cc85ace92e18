/-
  What gather.Put does: plain.
-/
import Derived.Test.YtendheafcbickaaGA
import Derived.Test.YtendheafcbickaaPutC
import Derived.Test.YtendheafcbickaaPutE
set_option linter.unusedVariables false
set_option linter.unusedSimpArgs false
set_option linter.unusedVariables false
namespace Go.Proofs.Ytendheafcbickaa
set_option maxRecDepth 100000

/-- a held piece: what is new ahead of it, then it -/
def ptOne (off last : Int) (data : List UInt8) (x : Int × Bool × List DPiece) (p : DPiece) : Int × Bool × List DPiece :=
  (max x.1 (p.Off + p.Data.length), x.2.1 || decide (last ≤ max x.1 (p.Off + p.Data.length)), (if x.2.1 = false ∧ x.1 ≤ p.Off then pcAdd x.1 off data (min p.Off last) x.2.2 else x.2.2) ++ [p])
def ptAll (off last : Int) (data : List UInt8) : Int × Bool × List DPiece → List DPiece → Int × Bool × List DPiece
  | x, [] => x
  | x, p :: l => ptAll off last data (ptOne off last data x p) l
def ptEnd (off last : Int) (data : List UInt8) (x : Int × Bool × List DPiece) : List DPiece := pcAdd x.1 off data last x.2.2
def ptL (g : DGather) (off : Int) (data : List UInt8) : List DPiece := ptEnd off (off + data.length) data (ptAll off (off + data.length) data (max off g.Done, false, []) g.Held)
/-- P8.3 -/
def putR (g : DGather) (off : Int) (data : List UInt8) (fin : Bool) : DGather × Int :=
  if gatherFlt g ≠ 0 then (⟨0, [], 0, 0⟩, gatherFlt g)
  else if off < 0 ∨ 4611686018427387903 - data.length < off then (⟨0, [], 0, 0⟩, 6)
  else if (0 ≤ g.Final ∧ (g.Final < off + data.length ∨ (fin = true ∧ off + data.length ≠ g.Final))) ∨ (fin = true ∧ off + data.length < gReach g) then (⟨0, [], 0, 0⟩, 12)
  else if g.Window < off + data.length then (⟨0, [], 0, 0⟩, 11)
  else if 4 < (mgL (ptL g off data)).length then (⟨0, [], 0, 0⟩, 8)
  else (⟨g.Done, mgL (ptL g off data), if fin = true then off + data.length else g.Final, g.Window⟩, 0)

/-- what holds of the pieces put so far: n of them at most twice, each of a MiB at most -/
def ptOk (off : Int) (n : Nat) (x : Int × Bool × List DPiece) : Prop :=
  off ≤ x.1 ∧ x.1 ≤ 4611686018427387903 ∧ x.2.2.length ≤ 2 * n ∧ szP x.2.2 ≤ 33554432 * n ∧ ∀ p ∈ x.2.2, okP3 p
theorem szP_app : ∀ (l m : List DPiece), szP (l ++ m) = szP l + szP m
  | [], m => by simp [szP]
  | p :: l, m => by simp only [List.cons_append, szP, szP_app l m]; omega
theorem pcOf_len {a off to : Int} {data : List UInt8} (h0 : off ≤ a) (h1 : a ≤ to) (h2 : to ≤ off + data.length) : ((pcOf a off data to).Data.length : Int) = to - a := by
  unfold pcOf
  simp only [List.length_drop, List.length_take]
  omega
theorem pcAdd_ok {a off to : Int} {data : List UInt8} {l : List DPiece} (h00 : 0 ≤ off) (h0 : off ≤ a) (h2 : to ≤ off + data.length) (hd : data.length ≤ 1048576) (hm : off + data.length ≤ 4611686018427387903) (hl : ∀ p ∈ l, okP3 p) :
    (pcAdd a off data to l).length ≤ l.length + 1 ∧ szP (pcAdd a off data to l) ≤ szP l + 1048576 ∧ ∀ p ∈ pcAdd a off data to l, okP3 p := by
  unfold pcAdd
  split
  · rename_i h
    have hlen := pcOf_len h0 (by omega) h2
    refine ⟨by simp, ?_, fun p hp => ?_⟩
    · rw [szP_app]
      have : szP [pcOf a off data to] = (pcOf a off data to).Data.length := by simp [szP]
      omega
    · rcases List.mem_append.1 hp with hp | hp
      · exact hl p hp
      · rw [List.mem_singleton] at hp
        subst hp
        have e : (pcOf a off data to).Off = a := rfl
        unfold okP3; omega
  · exact ⟨by omega, by omega, hl⟩
theorem ptOne_ok {off : Int} {data : List UInt8} {x : Int × Bool × List DPiece} {p : DPiece} {n : Nat} (h00 : 0 ≤ off) (hd : data.length ≤ 1048576) (hm : off + data.length ≤ 4611686018427387903) (hx : ptOk off n x) (hp : okP3 p) (hpl : p.Data.length ≤ 16777216) : ptOk off (n + 1) (ptOne off (off + data.length) data x p) := by
  obtain ⟨h1, h2, h3, h4, h5⟩ := hx
  have hpp := hp
  unfold okP3 at hpp
  have hc := pcAdd_ok (to := min p.Off (off + data.length)) h00 h1 (by omega) hd hm h5
  have hsp : szP [p] = p.Data.length := by simp [szP]
  have key : ∀ q : List DPiece, q.length ≤ x.2.2.length + 1 ∧ szP q ≤ szP x.2.2 + 1048576 ∧ (∀ p ∈ q, okP3 p) → ptOk off (n + 1) (max x.1 (p.Off + p.Data.length), x.2.1 || decide (off + data.length ≤ max x.1 (p.Off + p.Data.length)), q ++ [p]) := by
    intro q hq
    refine ⟨by dsimp only; omega, by dsimp only; omega, by simp; omega, by dsimp only; rw [szP_app]; omega, fun y hy => ?_⟩
    rcases List.mem_append.1 hy with hy | hy
    · exact hq.2.2 y hy
    · rw [List.mem_singleton] at hy; subst hy; exact hp
  unfold ptOne
  split
  · exact key _ hc
  · exact key _ ⟨by omega, by omega, h5⟩
end Go.Proofs.Ytendheafcbickaa
