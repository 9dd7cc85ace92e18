/-
  THE STRUCTS OF PACKAGE api AS PLAIN DATA, and how they lie in cells. Written by a program (mktypes.py).
-/
import Derived.Test.YtmfpfpllipogiaaRep
set_option linter.unusedSimpArgs false
set_option linter.unusedVariables false
namespace Go.Proofs.Ytmfpfpllipogiaa
open Go.ChangeShapes Go.WideShapes Go.ChangeAt Go.RowKit Go.Deep

/-! ### Range -/
structure DRange where
  Lo : Int
  Hi : Int
def RRange (_ : Foot) (_ : World) (cs : List Value) (x : DRange) : Prop :=
  cs = [.int .i64 x.Lo, .int .i64 x.Hi] ∧ I64 x.Lo ∧ I64 x.Hi
theorem RRange.keeps : Keeps RRange := fun _ _ _ _ _ _ _ _ h => h
theorem rRange_of_cells {W : World} (cs : List Value) (h : Cells Try.prog W 79 cs) : ∃ x, RRange (fun b => b < W.heap.size) W cs x := by
  obtain ⟨hl, hf⟩ := h.struct_ Try.underlying79
  rw [show Try.prog.cellsOf 79 = 2 from by kernel_rfl] at hl
  match cs, hl, hf with
  | [c0, c1], _, hf =>
    have g0 : Cells Try.prog W 3 [c0] := by
      have q : Cells Try.prog W 3 (([c0, c1].drop 0).take (Try.prog.cellsOf 3)) := hf 0 _ rfl
      rw [show Try.prog.cellsOf 3 = 1 from by kernel_rfl] at q
      exact q
    have g1 : Cells Try.prog W 3 [c1] := by
      have q : Cells Try.prog W 3 (([c0, c1].drop 1).take (Try.prog.cellsOf 3)) := hf 1 _ rfl
      rw [show Try.prog.cellsOf 3 = 1 from by kernel_rfl] at q
      exact q
    obtain ⟨x0, e0, w0⟩ := g0.int_ Try.underlying3
    injection e0 with e0 _
    subst e0
    obtain ⟨x1, e1, w1⟩ := g1.int_ Try.underlying3
    injection e1 with e1 _
    subst e1
    exact ⟨⟨x0, x1⟩, ⟨rfl, i64_of_wf w0, i64_of_wf w1⟩⟩

/-! ### Flow -/
structure DFlow where
  Max : Int
  Used : Int
def RFlow (_ : Foot) (_ : World) (cs : List Value) (x : DFlow) : Prop :=
  cs = [.int .i64 x.Max, .int .i64 x.Used] ∧ I64 x.Max ∧ I64 x.Used
theorem RFlow.keeps : Keeps RFlow := fun _ _ _ _ _ _ _ _ h => h
theorem rFlow_of_cells {W : World} (cs : List Value) (h : Cells Try.prog W 38 cs) : ∃ x, RFlow (fun b => b < W.heap.size) W cs x := by
  obtain ⟨hl, hf⟩ := h.struct_ Try.underlying38
  rw [show Try.prog.cellsOf 38 = 2 from by kernel_rfl] at hl
  match cs, hl, hf with
  | [c0, c1], _, hf =>
    have g0 : Cells Try.prog W 3 [c0] := by
      have q : Cells Try.prog W 3 (([c0, c1].drop 0).take (Try.prog.cellsOf 3)) := hf 0 _ rfl
      rw [show Try.prog.cellsOf 3 = 1 from by kernel_rfl] at q
      exact q
    have g1 : Cells Try.prog W 3 [c1] := by
      have q : Cells Try.prog W 3 (([c0, c1].drop 1).take (Try.prog.cellsOf 3)) := hf 1 _ rfl
      rw [show Try.prog.cellsOf 3 = 1 from by kernel_rfl] at q
      exact q
    obtain ⟨x0, e0, w0⟩ := g0.int_ Try.underlying3
    injection e0 with e0 _
    subst e0
    obtain ⟨x1, e1, w1⟩ := g1.int_ Try.underlying3
    injection e1 with e1 _
    subst e1
    exact ⟨⟨x0, x1⟩, ⟨rfl, i64_of_wf w0, i64_of_wf w1⟩⟩

/-! ### Pace -/
structure DPace where
  Window : Int
  Thresh : Int
  Flying : Int
  Since : Int
def RPace (_ : Foot) (_ : World) (cs : List Value) (x : DPace) : Prop :=
  cs = [.int .i64 x.Window, .int .i64 x.Thresh, .int .i64 x.Flying, .int .i64 x.Since] ∧ I64 x.Window ∧ I64 x.Thresh ∧ I64 x.Flying ∧ I64 x.Since
theorem RPace.keeps : Keeps RPace := fun _ _ _ _ _ _ _ _ h => h
theorem rPace_of_cells {W : World} (cs : List Value) (h : Cells Try.prog W 67 cs) : ∃ x, RPace (fun b => b < W.heap.size) W cs x := by
  obtain ⟨hl, hf⟩ := h.struct_ Try.underlying67
  rw [show Try.prog.cellsOf 67 = 4 from by kernel_rfl] at hl
  match cs, hl, hf with
  | [c0, c1, c2, c3], _, hf =>
    have g0 : Cells Try.prog W 3 [c0] := by
      have q : Cells Try.prog W 3 (([c0, c1, c2, c3].drop 0).take (Try.prog.cellsOf 3)) := hf 0 _ rfl
      rw [show Try.prog.cellsOf 3 = 1 from by kernel_rfl] at q
      exact q
    have g1 : Cells Try.prog W 3 [c1] := by
      have q : Cells Try.prog W 3 (([c0, c1, c2, c3].drop 1).take (Try.prog.cellsOf 3)) := hf 1 _ rfl
      rw [show Try.prog.cellsOf 3 = 1 from by kernel_rfl] at q
      exact q
    have g2 : Cells Try.prog W 3 [c2] := by
      have q : Cells Try.prog W 3 (([c0, c1, c2, c3].drop 2).take (Try.prog.cellsOf 3)) := hf 2 _ rfl
      rw [show Try.prog.cellsOf 3 = 1 from by kernel_rfl] at q
      exact q
    have g3 : Cells Try.prog W 3 [c3] := by
      have q : Cells Try.prog W 3 (([c0, c1, c2, c3].drop 3).take (Try.prog.cellsOf 3)) := hf 3 _ rfl
      rw [show Try.prog.cellsOf 3 = 1 from by kernel_rfl] at q
      exact q
    obtain ⟨x0, e0, w0⟩ := g0.int_ Try.underlying3
    injection e0 with e0 _
    subst e0
    obtain ⟨x1, e1, w1⟩ := g1.int_ Try.underlying3
    injection e1 with e1 _
    subst e1
    obtain ⟨x2, e2, w2⟩ := g2.int_ Try.underlying3
    injection e2 with e2 _
    subst e2
    obtain ⟨x3, e3, w3⟩ := g3.int_ Try.underlying3
    injection e3 with e3 _
    subst e3
    exact ⟨⟨x0, x1, x2, x3⟩, ⟨rfl, i64_of_wf w0, i64_of_wf w1, i64_of_wf w2, i64_of_wf w3⟩⟩

/-! ### Piece -/
structure DPiece where
  Off : Int
  Data : List UInt8
def RPiece (S : Foot) (w : World) (cs : List Value) (x : DPiece) : Prop :=
  ∃ (vData : Value), cs = [.int .i64 x.Off, vData] ∧ I64 x.Off ∧ (RSlice 1 1 RByte) S w [vData] x.Data
theorem RPiece.keeps : Keeps RPiece := by
  rintro S S' w w' cs x hS hw ⟨vData, hc, f0, f1⟩
  exact ⟨vData, hc, f0, RSlice.keeps RByte.keeps S S' w w' _ _ hS hw f1⟩
theorem rPiece_of_cells {W : World} (cs : List Value) (h : Cells Try.prog W 83 cs) : ∃ x, RPiece (fun b => b < W.heap.size) W cs x := by
  obtain ⟨hl, hf⟩ := h.struct_ Try.underlying83
  rw [show Try.prog.cellsOf 83 = 2 from by kernel_rfl] at hl
  match cs, hl, hf with
  | [c0, c1], _, hf =>
    have g0 : Cells Try.prog W 3 [c0] := by
      have q : Cells Try.prog W 3 (([c0, c1].drop 0).take (Try.prog.cellsOf 3)) := hf 0 _ rfl
      rw [show Try.prog.cellsOf 3 = 1 from by kernel_rfl] at q
      exact q
    have g1 : Cells Try.prog W 27 [c1] := by
      have q : Cells Try.prog W 27 (([c0, c1].drop 1).take (Try.prog.cellsOf 27)) := hf 1 _ rfl
      rw [show Try.prog.cellsOf 27 = 1 from by kernel_rfl] at q
      exact q
    obtain ⟨x0, e0, w0⟩ := g0.int_ Try.underlying3
    injection e0 with e0 _
    subst e0
    obtain ⟨x1, w1, _⟩ := rslice_of_cells (R := RByte) (size := 1) (bytes := 1) Try.underlying27 (by kernel_rfl) (by kernel_rfl) (by decide) (fun es h => rbyte_of_cells Try.underlying5 es h) g1
    exact ⟨⟨x0, x1⟩, ⟨_, rfl, i64_of_wf w0, w1⟩⟩

/-! ### Gather -/
structure DGather where
  Done : Int
  Held : List DPiece
  Final : Int
  Window : Int
def RGather (S : Foot) (w : World) (cs : List Value) (x : DGather) : Prop :=
  ∃ (vHeld : Value), cs = [.int .i64 x.Done, vHeld, .int .i64 x.Final, .int .i64 x.Window] ∧ I64 x.Done ∧ (RSlice 2 32 RPiece) S w [vHeld] x.Held ∧ I64 x.Final ∧ I64 x.Window
theorem RGather.keeps : Keeps RGather := by
  rintro S S' w w' cs x hS hw ⟨vHeld, hc, f0, f1, f2, f3⟩
  exact ⟨vHeld, hc, f0, RSlice.keeps RPiece.keeps S S' w w' _ _ hS hw f1, f2, f3⟩
theorem rGather_of_cells {W : World} (cs : List Value) (h : Cells Try.prog W 52 cs) : ∃ x, RGather (fun b => b < W.heap.size) W cs x := by
  obtain ⟨hl, hf⟩ := h.struct_ Try.underlying52
  rw [show Try.prog.cellsOf 52 = 4 from by kernel_rfl] at hl
  match cs, hl, hf with
  | [c0, c1, c2, c3], _, hf =>
    have g0 : Cells Try.prog W 3 [c0] := by
      have q : Cells Try.prog W 3 (([c0, c1, c2, c3].drop 0).take (Try.prog.cellsOf 3)) := hf 0 _ rfl
      rw [show Try.prog.cellsOf 3 = 1 from by kernel_rfl] at q
      exact q
    have g1 : Cells Try.prog W 50 [c1] := by
      have q : Cells Try.prog W 50 (([c0, c1, c2, c3].drop 1).take (Try.prog.cellsOf 50)) := hf 1 _ rfl
      rw [show Try.prog.cellsOf 50 = 1 from by kernel_rfl] at q
      exact q
    have g2 : Cells Try.prog W 3 [c2] := by
      have q : Cells Try.prog W 3 (([c0, c1, c2, c3].drop 2).take (Try.prog.cellsOf 3)) := hf 2 _ rfl
      rw [show Try.prog.cellsOf 3 = 1 from by kernel_rfl] at q
      exact q
    have g3 : Cells Try.prog W 3 [c3] := by
      have q : Cells Try.prog W 3 (([c0, c1, c2, c3].drop 3).take (Try.prog.cellsOf 3)) := hf 3 _ rfl
      rw [show Try.prog.cellsOf 3 = 1 from by kernel_rfl] at q
      exact q
    obtain ⟨x0, e0, w0⟩ := g0.int_ Try.underlying3
    injection e0 with e0 _
    subst e0
    obtain ⟨x1, w1, _⟩ := rslice_of_cells (R := RPiece) (size := 2) (bytes := 32) Try.underlying50 (by kernel_rfl) (by kernel_rfl) (by decide) (fun es h => rPiece_of_cells es h) g1
    obtain ⟨x2, e2, w2⟩ := g2.int_ Try.underlying3
    injection e2 with e2 _
    subst e2
    obtain ⟨x3, e3, w3⟩ := g3.int_ Try.underlying3
    injection e3 with e3 _
    subst e3
    exact ⟨⟨x0, x1, x2, x3⟩, ⟨_, rfl, i64_of_wf w0, w1, i64_of_wf w2, i64_of_wf w3⟩⟩

end Go.Proofs.Ytmfpfpllipogiaa
