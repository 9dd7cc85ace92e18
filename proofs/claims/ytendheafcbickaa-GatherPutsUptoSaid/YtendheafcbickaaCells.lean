/-
  THE STRUCTS OF PACKAGE api, read out of an argument. Written by a program (mkenc.py).
-/
import Derived.Test.YtendheafcbickaaGB
import Derived.Test.YtendheafcbickaaProg
set_option linter.unusedVariables false
namespace Go.Proofs.Ytendheafcbickaa
open Go.ChangeShapes Go.WideShapes Go.ChangeAt Go.RowKit Go.Deep

def RPiece (S : Nat → Prop) (w : World) (cs : List Value) (x : DPiece) : Prop := RdC S w (encPiece x) cs ∧ wfPiece x
set_option maxRecDepth 100000 in
theorem rPiece_of_cells {W : World} (cs : List Value) (h : Cells Try.prog W 34 cs) : ∃ x, RPiece (fun b => b < W.heap.size) W cs x := by
  obtain ⟨hl, hf⟩ := h.struct_ Try.underlying34
  rw [show Try.prog.cellsOf 34 = 2 from by kernel_rfl] at hl
  match cs, hl, hf with
  | [c0, c1], _, hf =>
    have g0 : Cells Try.prog W 3 [c0] := by
      have q : Cells Try.prog W 3 (([c0, c1].drop 0).take (Try.prog.cellsOf 3)) := hf 0 _ rfl
      rw [show Try.prog.cellsOf 3 = 1 from by kernel_rfl] at q
      exact q
    have g1 : Cells Try.prog W 25 [c1] := by
      have q : Cells Try.prog W 25 (([c0, c1].drop 1).take (Try.prog.cellsOf 25)) := hf 1 _ rfl
      rw [show Try.prog.cellsOf 25 = 1 from by kernel_rfl] at q
      exact q
    obtain ⟨x0, e0, w0⟩ := g0.int_ Try.underlying3
    injection e0 with e0 _
    subst e0
    obtain ⟨x1, p1, w1, v1⟩ := rd_of_slice (enc := encB) (wf := fun _ => True) (size := 1) (bytes := 1) Try.underlying25 (by kernel_rfl) (by kernel_rfl) (by decide) (fun es h => rdB_of_cells Try.underlying5 es h) g1
    exact ⟨⟨x0, x1⟩, rdc (.lit _ rfl) ( rdc (p1) (rd0)), ⟨i64_of_wf w0, w1⟩⟩

def RGather (S : Nat → Prop) (w : World) (cs : List Value) (x : DGather) : Prop := RdC S w (encGather x) cs ∧ wfGather x
set_option maxRecDepth 100000 in
theorem rGather_of_cells {W : World} (cs : List Value) (h : Cells Try.prog W 24 cs) : ∃ x, RGather (fun b => b < W.heap.size) W cs x := by
  obtain ⟨hl, hf⟩ := h.struct_ Try.underlying24
  rw [show Try.prog.cellsOf 24 = 4 from by kernel_rfl] at hl
  match cs, hl, hf with
  | [c0, c1, c2, c3], _, hf =>
    have g0 : Cells Try.prog W 3 [c0] := by
      have q : Cells Try.prog W 3 (([c0, c1, c2, c3].drop 0).take (Try.prog.cellsOf 3)) := hf 0 _ rfl
      rw [show Try.prog.cellsOf 3 = 1 from by kernel_rfl] at q
      exact q
    have g1 : Cells Try.prog W 22 [c1] := by
      have q : Cells Try.prog W 22 (([c0, c1, c2, c3].drop 1).take (Try.prog.cellsOf 22)) := hf 1 _ rfl
      rw [show Try.prog.cellsOf 22 = 1 from by kernel_rfl] at q
      exact q
    have g2 : Cells Try.prog W 3 [c2] := by
      have q : Cells Try.prog W 3 (([c0, c1, c2, c3].drop 2).take (Try.prog.cellsOf 3)) := hf 2 _ rfl
      rw [show Try.prog.cellsOf 3 = 1 from by kernel_rfl] at q
      exact q
    have g3 : Cells Try.prog W 3 [c3] := by
      have q : Cells Try.prog W 3 (([c0, c1, c2, c3].drop 3).take (Try.prog.cellsOf 3)) := hf 3 _ rfl
      rw [show Try.prog.cellsOf 3 = 1 from by kernel_rfl] at q
      exact q
    obtain ⟨x0, e0, w0⟩ := g0.int_ Try.underlying3
    injection e0 with e0 _
    subst e0
    obtain ⟨x1, p1, w1, v1⟩ := rd_of_slice (enc := encPiece) (wf := wfPiece) (size := 2) (bytes := 32) Try.underlying22 (by kernel_rfl) (by kernel_rfl) (by decide) (fun es h => rPiece_of_cells es h) g1
    obtain ⟨x2, e2, w2⟩ := g2.int_ Try.underlying3
    injection e2 with e2 _
    subst e2
    obtain ⟨x3, e3, w3⟩ := g3.int_ Try.underlying3
    injection e3 with e3 _
    subst e3
    exact ⟨⟨x0, x1, x2, x3⟩, rdc (.lit _ rfl) ( rdc (p1) ( rdc (.lit _ rfl) ( rdc (.lit _ rfl) (rd0)))), ⟨i64_of_wf w0, w1, v1, i64_of_wf w2, i64_of_wf w3⟩⟩

end Go.Proofs.Ytendheafcbickaa
