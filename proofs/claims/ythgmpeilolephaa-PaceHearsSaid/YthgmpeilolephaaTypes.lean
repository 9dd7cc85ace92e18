/-
  THE STRUCTS OF PACKAGE api AS PLAIN DATA, and how they lie in cells. Written by a program (mktypes.py).
-/
import Derived.Test.YthgmpeilolephaaRep
set_option linter.unusedSimpArgs false
set_option linter.unusedVariables false
namespace Go.Proofs.Ythgmpeilolephaa
open Go.ChangeShapes Go.WideShapes Go.ChangeAt Go.RowKit Go.Deep

/-! ### Range -/
structure DRange where
  Lo : Int
  Hi : Int
def RRange (_ : Foot) (_ : World) (cs : List Value) (x : DRange) : Prop :=
  cs = [.int .i64 x.Lo, .int .i64 x.Hi] ∧ I64 x.Lo ∧ I64 x.Hi
theorem RRange.keeps : Keeps RRange := fun _ _ _ _ _ _ _ _ h => h
set_option maxRecDepth 100000 in
theorem rRange_of_cells {W : World} (cs : List Value) (h : Cells Try.prog W 79 cs) : ∃ x, RRange (fun b => b < W.heap.size) W cs x := by
  obtain ⟨hl, hf⟩ := h.struct_ Try.underlying79
  rw [show Try.prog.cellsOf 79 = 2 from by kernel_rfl] at hl
  match cs, hl, hf with
  | [c0, c1], _, hf =>
    have g0 : Cells Try.prog W 3 [c0] := by
      have q : Cells Try.prog W 3 (([c0, c1].drop 0).take (Try.prog.cellsOf 3)) := hf 0 _ rfl
      rw [show Try.prog.cellsOf 3 = 1 from by kernel_rfl] at q
      exact q
    have g1 : Cells Try.prog W 3 [c1] := by
      have q : Cells Try.prog W 3 (([c0, c1].drop 1).take (Try.prog.cellsOf 3)) := hf 1 _ rfl
      rw [show Try.prog.cellsOf 3 = 1 from by kernel_rfl] at q
      exact q
    obtain ⟨x0, e0, w0⟩ := g0.int_ Try.underlying3
    injection e0 with e0 _
    subst e0
    obtain ⟨x1, e1, w1⟩ := g1.int_ Try.underlying3
    injection e1 with e1 _
    subst e1
    exact ⟨⟨x0, x1⟩, ⟨rfl, i64_of_wf w0, i64_of_wf w1⟩⟩

/-! ### Pace -/
structure DPace where
  Window : Int
  Thresh : Int
  Flying : Int
  Since : Int
def RPace (_ : Foot) (_ : World) (cs : List Value) (x : DPace) : Prop :=
  cs = [.int .i64 x.Window, .int .i64 x.Thresh, .int .i64 x.Flying, .int .i64 x.Since] ∧ I64 x.Window ∧ I64 x.Thresh ∧ I64 x.Flying ∧ I64 x.Since
theorem RPace.keeps : Keeps RPace := fun _ _ _ _ _ _ _ _ h => h
set_option maxRecDepth 100000 in
theorem rPace_of_cells {W : World} (cs : List Value) (h : Cells Try.prog W 38 cs) : ∃ x, RPace (fun b => b < W.heap.size) W cs x := by
  obtain ⟨hl, hf⟩ := h.struct_ Try.underlying38
  rw [show Try.prog.cellsOf 38 = 4 from by kernel_rfl] at hl
  match cs, hl, hf with
  | [c0, c1, c2, c3], _, hf =>
    have g0 : Cells Try.prog W 3 [c0] := by
      have q : Cells Try.prog W 3 (([c0, c1, c2, c3].drop 0).take (Try.prog.cellsOf 3)) := hf 0 _ rfl
      rw [show Try.prog.cellsOf 3 = 1 from by kernel_rfl] at q
      exact q
    have g1 : Cells Try.prog W 3 [c1] := by
      have q : Cells Try.prog W 3 (([c0, c1, c2, c3].drop 1).take (Try.prog.cellsOf 3)) := hf 1 _ rfl
      rw [show Try.prog.cellsOf 3 = 1 from by kernel_rfl] at q
      exact q
    have g2 : Cells Try.prog W 3 [c2] := by
      have q : Cells Try.prog W 3 (([c0, c1, c2, c3].drop 2).take (Try.prog.cellsOf 3)) := hf 2 _ rfl
      rw [show Try.prog.cellsOf 3 = 1 from by kernel_rfl] at q
      exact q
    have g3 : Cells Try.prog W 3 [c3] := by
      have q : Cells Try.prog W 3 (([c0, c1, c2, c3].drop 3).take (Try.prog.cellsOf 3)) := hf 3 _ rfl
      rw [show Try.prog.cellsOf 3 = 1 from by kernel_rfl] at q
      exact q
    obtain ⟨x0, e0, w0⟩ := g0.int_ Try.underlying3
    injection e0 with e0 _
    subst e0
    obtain ⟨x1, e1, w1⟩ := g1.int_ Try.underlying3
    injection e1 with e1 _
    subst e1
    obtain ⟨x2, e2, w2⟩ := g2.int_ Try.underlying3
    injection e2 with e2 _
    subst e2
    obtain ⟨x3, e3, w3⟩ := g3.int_ Try.underlying3
    injection e3 with e3 _
    subst e3
    exact ⟨⟨x0, x1, x2, x3⟩, ⟨rfl, i64_of_wf w0, i64_of_wf w1, i64_of_wf w2, i64_of_wf w3⟩⟩

/-! ### Field -/
structure DField where
  Name : ByteArray
  Value : ByteArray
def RField (_ : Foot) (_ : World) (cs : List Value) (x : DField) : Prop :=
  cs = [.string x.Name, .string x.Value] ∧ x.Name.size ≤ reachBytes ∧ x.Value.size ≤ reachBytes
theorem RField.keeps : Keeps RField := fun _ _ _ _ _ _ _ _ h => h
set_option maxRecDepth 100000 in
theorem rField_of_cells {W : World} (cs : List Value) (h : Cells Try.prog W 114 cs) : ∃ x, RField (fun b => b < W.heap.size) W cs x := by
  obtain ⟨hl, hf⟩ := h.struct_ Try.underlying114
  rw [show Try.prog.cellsOf 114 = 2 from by kernel_rfl] at hl
  match cs, hl, hf with
  | [c0, c1], _, hf =>
    have g0 : Cells Try.prog W 9 [c0] := by
      have q : Cells Try.prog W 9 (([c0, c1].drop 0).take (Try.prog.cellsOf 9)) := hf 0 _ rfl
      rw [show Try.prog.cellsOf 9 = 1 from by kernel_rfl] at q
      exact q
    have g1 : Cells Try.prog W 9 [c1] := by
      have q : Cells Try.prog W 9 (([c0, c1].drop 1).take (Try.prog.cellsOf 9)) := hf 1 _ rfl
      rw [show Try.prog.cellsOf 9 = 1 from by kernel_rfl] at q
      exact q
    obtain ⟨x0, e0, w0⟩ := g0.string_ Try.underlying9
    injection e0 with e0 _
    subst e0
    obtain ⟨x1, e1, w1⟩ := g1.string_ Try.underlying9
    injection e1 with e1 _
    subst e1
    exact ⟨⟨x0, x1⟩, ⟨rfl, w0, w1⟩⟩

/-! ### Piece -/
structure DPiece where
  Off : Int
  Data : List UInt8
def RPiece (S : Foot) (w : World) (cs : List Value) (x : DPiece) : Prop :=
  ∃ (vData : Value), cs = [.int .i64 x.Off, vData] ∧ I64 x.Off ∧ (RSlice 1 1 RByte) S w [vData] x.Data
theorem RPiece.keeps : Keeps RPiece := by
  rintro S S' w w' cs x hS hw ⟨vData, hc, f0, f1⟩
  exact ⟨vData, hc, f0, RSlice.keeps RByte.keeps S S' w w' _ _ hS hw f1⟩
set_option maxRecDepth 100000 in
theorem rPiece_of_cells {W : World} (cs : List Value) (h : Cells Try.prog W 100 cs) : ∃ x, RPiece (fun b => b < W.heap.size) W cs x := by
  obtain ⟨hl, hf⟩ := h.struct_ Try.underlying100
  rw [show Try.prog.cellsOf 100 = 2 from by kernel_rfl] at hl
  match cs, hl, hf with
  | [c0, c1], _, hf =>
    have g0 : Cells Try.prog W 3 [c0] := by
      have q : Cells Try.prog W 3 (([c0, c1].drop 0).take (Try.prog.cellsOf 3)) := hf 0 _ rfl
      rw [show Try.prog.cellsOf 3 = 1 from by kernel_rfl] at q
      exact q
    have g1 : Cells Try.prog W 22 [c1] := by
      have q : Cells Try.prog W 22 (([c0, c1].drop 1).take (Try.prog.cellsOf 22)) := hf 1 _ rfl
      rw [show Try.prog.cellsOf 22 = 1 from by kernel_rfl] at q
      exact q
    obtain ⟨x0, e0, w0⟩ := g0.int_ Try.underlying3
    injection e0 with e0 _
    subst e0
    obtain ⟨x1, w1, _⟩ := rslice_of_cells (R := RByte) (size := 1) (bytes := 1) Try.underlying22 (by kernel_rfl) (by kernel_rfl) (by decide) (fun es h => rbyte_of_cells Try.underlying5 es h) g1
    exact ⟨⟨x0, x1⟩, ⟨_, rfl, i64_of_wf w0, w1⟩⟩

/-! ### Gather -/
structure DGather where
  Done : Int
  Held : List DPiece
  Final : Int
  Window : Int
def RGather (S : Foot) (w : World) (cs : List Value) (x : DGather) : Prop :=
  ∃ (vHeld : Value), cs = [.int .i64 x.Done, vHeld, .int .i64 x.Final, .int .i64 x.Window] ∧ I64 x.Done ∧ (RSlice 2 32 RPiece) S w [vHeld] x.Held ∧ I64 x.Final ∧ I64 x.Window
theorem RGather.keeps : Keeps RGather := by
  rintro S S' w w' cs x hS hw ⟨vHeld, hc, f0, f1, f2, f3⟩
  exact ⟨vHeld, hc, f0, RSlice.keeps RPiece.keeps S S' w w' _ _ hS hw f1, f2, f3⟩
set_option maxRecDepth 100000 in
theorem rGather_of_cells {W : World} (cs : List Value) (h : Cells Try.prog W 53 cs) : ∃ x, RGather (fun b => b < W.heap.size) W cs x := by
  obtain ⟨hl, hf⟩ := h.struct_ Try.underlying53
  rw [show Try.prog.cellsOf 53 = 4 from by kernel_rfl] at hl
  match cs, hl, hf with
  | [c0, c1, c2, c3], _, hf =>
    have g0 : Cells Try.prog W 3 [c0] := by
      have q : Cells Try.prog W 3 (([c0, c1, c2, c3].drop 0).take (Try.prog.cellsOf 3)) := hf 0 _ rfl
      rw [show Try.prog.cellsOf 3 = 1 from by kernel_rfl] at q
      exact q
    have g1 : Cells Try.prog W 51 [c1] := by
      have q : Cells Try.prog W 51 (([c0, c1, c2, c3].drop 1).take (Try.prog.cellsOf 51)) := hf 1 _ rfl
      rw [show Try.prog.cellsOf 51 = 1 from by kernel_rfl] at q
      exact q
    have g2 : Cells Try.prog W 3 [c2] := by
      have q : Cells Try.prog W 3 (([c0, c1, c2, c3].drop 2).take (Try.prog.cellsOf 3)) := hf 2 _ rfl
      rw [show Try.prog.cellsOf 3 = 1 from by kernel_rfl] at q
      exact q
    have g3 : Cells Try.prog W 3 [c3] := by
      have q : Cells Try.prog W 3 (([c0, c1, c2, c3].drop 3).take (Try.prog.cellsOf 3)) := hf 3 _ rfl
      rw [show Try.prog.cellsOf 3 = 1 from by kernel_rfl] at q
      exact q
    obtain ⟨x0, e0, w0⟩ := g0.int_ Try.underlying3
    injection e0 with e0 _
    subst e0
    obtain ⟨x1, w1, _⟩ := rslice_of_cells (R := RPiece) (size := 2) (bytes := 32) Try.underlying51 (by kernel_rfl) (by kernel_rfl) (by decide) (fun es h => rPiece_of_cells es h) g1
    obtain ⟨x2, e2, w2⟩ := g2.int_ Try.underlying3
    injection e2 with e2 _
    subst e2
    obtain ⟨x3, e3, w3⟩ := g3.int_ Try.underlying3
    injection e3 with e3 _
    subst e3
    exact ⟨⟨x0, x1, x2, x3⟩, ⟨_, rfl, i64_of_wf w0, w1, i64_of_wf w2, i64_of_wf w3⟩⟩

/-! ### Sender -/
structure DSender where
  Data : List UInt8
  Fin : Bool
  Next : Int
  Max : Int
  Lost : List DRange
  Acked : List DRange
  Ended : Bool
  Over : Bool
def RSender (S : Foot) (w : World) (cs : List Value) (x : DSender) : Prop :=
  ∃ (vData : Value), ∃ (vLost : Value), ∃ (vAcked : Value), cs = [vData, .bool x.Fin, .int .i64 x.Next, .int .i64 x.Max, vLost, vAcked, .bool x.Ended, .bool x.Over] ∧ (RSlice 1 1 RByte) S w [vData] x.Data ∧ I64 x.Next ∧ I64 x.Max ∧ (RSlice 2 16 RRange) S w [vLost] x.Lost ∧ (RSlice 2 16 RRange) S w [vAcked] x.Acked
theorem RSender.keeps : Keeps RSender := by
  rintro S S' w w' cs x hS hw ⟨vData, vLost, vAcked, hc, f0, f1, f2, f3, f4⟩
  exact ⟨vData, vLost, vAcked, hc, RSlice.keeps RByte.keeps S S' w w' _ _ hS hw f0, f1, f2, RSlice.keeps RRange.keeps S S' w w' _ _ hS hw f3, RSlice.keeps RRange.keeps S S' w w' _ _ hS hw f4⟩
set_option maxRecDepth 100000 in
theorem rSender_of_cells {W : World} (cs : List Value) (h : Cells Try.prog W 44 cs) : ∃ x, RSender (fun b => b < W.heap.size) W cs x := by
  obtain ⟨hl, hf⟩ := h.struct_ Try.underlying44
  rw [show Try.prog.cellsOf 44 = 8 from by kernel_rfl] at hl
  match cs, hl, hf with
  | [c0, c1, c2, c3, c4, c5, c6, c7], _, hf =>
    have g0 : Cells Try.prog W 22 [c0] := by
      have q : Cells Try.prog W 22 (([c0, c1, c2, c3, c4, c5, c6, c7].drop 0).take (Try.prog.cellsOf 22)) := hf 0 _ rfl
      rw [show Try.prog.cellsOf 22 = 1 from by kernel_rfl] at q
      exact q
    have g1 : Cells Try.prog W 4 [c1] := by
      have q : Cells Try.prog W 4 (([c0, c1, c2, c3, c4, c5, c6, c7].drop 1).take (Try.prog.cellsOf 4)) := hf 1 _ rfl
      rw [show Try.prog.cellsOf 4 = 1 from by kernel_rfl] at q
      exact q
    have g2 : Cells Try.prog W 3 [c2] := by
      have q : Cells Try.prog W 3 (([c0, c1, c2, c3, c4, c5, c6, c7].drop 2).take (Try.prog.cellsOf 3)) := hf 2 _ rfl
      rw [show Try.prog.cellsOf 3 = 1 from by kernel_rfl] at q
      exact q
    have g3 : Cells Try.prog W 3 [c3] := by
      have q : Cells Try.prog W 3 (([c0, c1, c2, c3, c4, c5, c6, c7].drop 3).take (Try.prog.cellsOf 3)) := hf 3 _ rfl
      rw [show Try.prog.cellsOf 3 = 1 from by kernel_rfl] at q
      exact q
    have g4 : Cells Try.prog W 42 [c4] := by
      have q : Cells Try.prog W 42 (([c0, c1, c2, c3, c4, c5, c6, c7].drop 4).take (Try.prog.cellsOf 42)) := hf 4 _ rfl
      rw [show Try.prog.cellsOf 42 = 1 from by kernel_rfl] at q
      exact q
    have g5 : Cells Try.prog W 42 [c5] := by
      have q : Cells Try.prog W 42 (([c0, c1, c2, c3, c4, c5, c6, c7].drop 5).take (Try.prog.cellsOf 42)) := hf 5 _ rfl
      rw [show Try.prog.cellsOf 42 = 1 from by kernel_rfl] at q
      exact q
    have g6 : Cells Try.prog W 4 [c6] := by
      have q : Cells Try.prog W 4 (([c0, c1, c2, c3, c4, c5, c6, c7].drop 6).take (Try.prog.cellsOf 4)) := hf 6 _ rfl
      rw [show Try.prog.cellsOf 4 = 1 from by kernel_rfl] at q
      exact q
    have g7 : Cells Try.prog W 4 [c7] := by
      have q : Cells Try.prog W 4 (([c0, c1, c2, c3, c4, c5, c6, c7].drop 7).take (Try.prog.cellsOf 4)) := hf 7 _ rfl
      rw [show Try.prog.cellsOf 4 = 1 from by kernel_rfl] at q
      exact q
    obtain ⟨x0, w0, _⟩ := rslice_of_cells (R := RByte) (size := 1) (bytes := 1) Try.underlying22 (by kernel_rfl) (by kernel_rfl) (by decide) (fun es h => rbyte_of_cells Try.underlying5 es h) g0
    obtain ⟨x1, e1⟩ := g1.bool_ Try.underlying4
    injection e1 with e1 _
    subst e1
    obtain ⟨x2, e2, w2⟩ := g2.int_ Try.underlying3
    injection e2 with e2 _
    subst e2
    obtain ⟨x3, e3, w3⟩ := g3.int_ Try.underlying3
    injection e3 with e3 _
    subst e3
    obtain ⟨x4, w4, _⟩ := rslice_of_cells (R := RRange) (size := 2) (bytes := 16) Try.underlying42 (by kernel_rfl) (by kernel_rfl) (by decide) (fun es h => rRange_of_cells es h) g4
    obtain ⟨x5, w5, _⟩ := rslice_of_cells (R := RRange) (size := 2) (bytes := 16) Try.underlying42 (by kernel_rfl) (by kernel_rfl) (by decide) (fun es h => rRange_of_cells es h) g5
    obtain ⟨x6, e6⟩ := g6.bool_ Try.underlying4
    injection e6 with e6 _
    subst e6
    obtain ⟨x7, e7⟩ := g7.bool_ Try.underlying4
    injection e7 with e7 _
    subst e7
    exact ⟨⟨x0, x1, x2, x3, x4, x5, x6, x7⟩, ⟨_, _, _, rfl, w0, i64_of_wf w2, i64_of_wf w3, w4, w5⟩⟩

/-! ### Table -/
structure DTable where
  Room : Int
  Put : Int
  Rows : List DField
def RTable (S : Foot) (w : World) (cs : List Value) (x : DTable) : Prop :=
  ∃ (vRows : Value), cs = [.int .i64 x.Room, .int .i64 x.Put, vRows] ∧ I64 x.Room ∧ I64 x.Put ∧ (RSlice 2 32 RField) S w [vRows] x.Rows
theorem RTable.keeps : Keeps RTable := by
  rintro S S' w w' cs x hS hw ⟨vRows, hc, f0, f1, f2⟩
  exact ⟨vRows, hc, f0, f1, RSlice.keeps RField.keeps S S' w w' _ _ hS hw f2⟩
set_option maxRecDepth 100000 in
theorem rTable_of_cells {W : World} (cs : List Value) (h : Cells Try.prog W 73 cs) : ∃ x, RTable (fun b => b < W.heap.size) W cs x := by
  obtain ⟨hl, hf⟩ := h.struct_ Try.underlying73
  rw [show Try.prog.cellsOf 73 = 3 from by kernel_rfl] at hl
  match cs, hl, hf with
  | [c0, c1, c2], _, hf =>
    have g0 : Cells Try.prog W 3 [c0] := by
      have q : Cells Try.prog W 3 (([c0, c1, c2].drop 0).take (Try.prog.cellsOf 3)) := hf 0 _ rfl
      rw [show Try.prog.cellsOf 3 = 1 from by kernel_rfl] at q
      exact q
    have g1 : Cells Try.prog W 3 [c1] := by
      have q : Cells Try.prog W 3 (([c0, c1, c2].drop 1).take (Try.prog.cellsOf 3)) := hf 1 _ rfl
      rw [show Try.prog.cellsOf 3 = 1 from by kernel_rfl] at q
      exact q
    have g2 : Cells Try.prog W 71 [c2] := by
      have q : Cells Try.prog W 71 (([c0, c1, c2].drop 2).take (Try.prog.cellsOf 71)) := hf 2 _ rfl
      rw [show Try.prog.cellsOf 71 = 1 from by kernel_rfl] at q
      exact q
    obtain ⟨x0, e0, w0⟩ := g0.int_ Try.underlying3
    injection e0 with e0 _
    subst e0
    obtain ⟨x1, e1, w1⟩ := g1.int_ Try.underlying3
    injection e1 with e1 _
    subst e1
    obtain ⟨x2, w2, _⟩ := rslice_of_cells (R := RField) (size := 2) (bytes := 32) Try.underlying71 (by kernel_rfl) (by kernel_rfl) (by decide) (fun es h => rField_of_cells es h) g2
    exact ⟨⟨x0, x1, x2⟩, ⟨_, rfl, i64_of_wf w0, i64_of_wf w1, w2⟩⟩

end Go.Proofs.Ythgmpeilolephaa
