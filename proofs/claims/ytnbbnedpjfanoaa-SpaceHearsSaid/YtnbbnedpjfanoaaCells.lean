/-
  THE STRUCTS OF PACKAGE api, read out of an argument. Written by a program (mkenc.py).
-/
import Derived.Test.YtnbbnedpjfanoaaRead
import Derived.Test.YtnbbnedpjfanoaaProg
set_option linter.unusedVariables false
namespace Go.Proofs.Ytnbbnedpjfanoaa
open Go.ChangeShapes Go.WideShapes Go.ChangeAt Go.RowKit Go.Deep

def RRange (S : Nat → Prop) (w : World) (cs : List Value) (x : DRange) : Prop := RdC S w (encRange x) cs ∧ wfRange x
set_option maxRecDepth 100000 in
theorem rRange_of_cells {W : World} (cs : List Value) (h : Cells Try.prog W 45 cs) : ∃ x, RRange (fun b => b < W.heap.size) W cs x := by
  obtain ⟨hl, hf⟩ := h.struct_ Try.underlying45
  rw [show Try.prog.cellsOf 45 = 2 from by kernel_rfl] at hl
  match cs, hl, hf with
  | [c0, c1], _, hf =>
    have g0 : Cells Try.prog W 3 [c0] := by
      have q : Cells Try.prog W 3 (([c0, c1].drop 0).take (Try.prog.cellsOf 3)) := hf 0 _ rfl
      rw [show Try.prog.cellsOf 3 = 1 from by kernel_rfl] at q
      exact q
    have g1 : Cells Try.prog W 3 [c1] := by
      have q : Cells Try.prog W 3 (([c0, c1].drop 1).take (Try.prog.cellsOf 3)) := hf 1 _ rfl
      rw [show Try.prog.cellsOf 3 = 1 from by kernel_rfl] at q
      exact q
    obtain ⟨x0, e0, w0⟩ := g0.int_ Try.underlying3
    injection e0 with e0 _
    subst e0
    obtain ⟨x1, e1, w1⟩ := g1.int_ Try.underlying3
    injection e1 with e1 _
    subst e1
    exact ⟨⟨x0, x1⟩, rdc (.lit _ rfl) ( rdc (.lit _ rfl) (rd0)), ⟨i64_of_wf w0, i64_of_wf w1⟩⟩

def RField (S : Nat → Prop) (w : World) (cs : List Value) (x : DField) : Prop := RdC S w (encField x) cs ∧ wfField x
set_option maxRecDepth 100000 in
theorem rField_of_cells {W : World} (cs : List Value) (h : Cells Try.prog W 91 cs) : ∃ x, RField (fun b => b < W.heap.size) W cs x := by
  obtain ⟨hl, hf⟩ := h.struct_ Try.underlying91
  rw [show Try.prog.cellsOf 91 = 2 from by kernel_rfl] at hl
  match cs, hl, hf with
  | [c0, c1], _, hf =>
    have g0 : Cells Try.prog W 9 [c0] := by
      have q : Cells Try.prog W 9 (([c0, c1].drop 0).take (Try.prog.cellsOf 9)) := hf 0 _ rfl
      rw [show Try.prog.cellsOf 9 = 1 from by kernel_rfl] at q
      exact q
    have g1 : Cells Try.prog W 9 [c1] := by
      have q : Cells Try.prog W 9 (([c0, c1].drop 1).take (Try.prog.cellsOf 9)) := hf 1 _ rfl
      rw [show Try.prog.cellsOf 9 = 1 from by kernel_rfl] at q
      exact q
    obtain ⟨y0, e0, w0⟩ := g0.string_ Try.underlying9
    injection e0 with e0 _
    obtain ⟨x0, rfl⟩ : ∃ l, y0 = strB l := ⟨_, (strB_self _).symm⟩
    subst e0
    obtain ⟨y1, e1, w1⟩ := g1.string_ Try.underlying9
    injection e1 with e1 _
    obtain ⟨x1, rfl⟩ : ∃ l, y1 = strB l := ⟨_, (strB_self _).symm⟩
    subst e1
    exact ⟨⟨x0, x1⟩, rdc (.lit _ rfl) ( rdc (.lit _ rfl) (rd0)), ⟨(by rw [strB_size] at w0; exact w0), (by rw [strB_size] at w1; exact w1)⟩⟩

def RPiece (S : Nat → Prop) (w : World) (cs : List Value) (x : DPiece) : Prop := RdC S w (encPiece x) cs ∧ wfPiece x
set_option maxRecDepth 100000 in
theorem rPiece_of_cells {W : World} (cs : List Value) (h : Cells Try.prog W 136 cs) : ∃ x, RPiece (fun b => b < W.heap.size) W cs x := by
  obtain ⟨hl, hf⟩ := h.struct_ Try.underlying136
  rw [show Try.prog.cellsOf 136 = 2 from by kernel_rfl] at hl
  match cs, hl, hf with
  | [c0, c1], _, hf =>
    have g0 : Cells Try.prog W 3 [c0] := by
      have q : Cells Try.prog W 3 (([c0, c1].drop 0).take (Try.prog.cellsOf 3)) := hf 0 _ rfl
      rw [show Try.prog.cellsOf 3 = 1 from by kernel_rfl] at q
      exact q
    have g1 : Cells Try.prog W 25 [c1] := by
      have q : Cells Try.prog W 25 (([c0, c1].drop 1).take (Try.prog.cellsOf 25)) := hf 1 _ rfl
      rw [show Try.prog.cellsOf 25 = 1 from by kernel_rfl] at q
      exact q
    obtain ⟨x0, e0, w0⟩ := g0.int_ Try.underlying3
    injection e0 with e0 _
    subst e0
    obtain ⟨x1, p1, w1, v1⟩ := rd_of_slice (enc := encB) (wf := fun _ => True) (size := 1) (bytes := 1) Try.underlying25 (by kernel_rfl) (by kernel_rfl) (by decide) (fun es h => rdB_of_cells Try.underlying5 es h) g1
    exact ⟨⟨x0, x1⟩, rdc (.lit _ rfl) ( rdc (p1) (rd0)), ⟨i64_of_wf w0, w1⟩⟩

def RGather (S : Nat → Prop) (w : World) (cs : List Value) (x : DGather) : Prop := RdC S w (encGather x) cs ∧ wfGather x
set_option maxRecDepth 100000 in
theorem rGather_of_cells {W : World} (cs : List Value) (h : Cells Try.prog W 69 cs) : ∃ x, RGather (fun b => b < W.heap.size) W cs x := by
  obtain ⟨hl, hf⟩ := h.struct_ Try.underlying69
  rw [show Try.prog.cellsOf 69 = 4 from by kernel_rfl] at hl
  match cs, hl, hf with
  | [c0, c1, c2, c3], _, hf =>
    have g0 : Cells Try.prog W 3 [c0] := by
      have q : Cells Try.prog W 3 (([c0, c1, c2, c3].drop 0).take (Try.prog.cellsOf 3)) := hf 0 _ rfl
      rw [show Try.prog.cellsOf 3 = 1 from by kernel_rfl] at q
      exact q
    have g1 : Cells Try.prog W 67 [c1] := by
      have q : Cells Try.prog W 67 (([c0, c1, c2, c3].drop 1).take (Try.prog.cellsOf 67)) := hf 1 _ rfl
      rw [show Try.prog.cellsOf 67 = 1 from by kernel_rfl] at q
      exact q
    have g2 : Cells Try.prog W 3 [c2] := by
      have q : Cells Try.prog W 3 (([c0, c1, c2, c3].drop 2).take (Try.prog.cellsOf 3)) := hf 2 _ rfl
      rw [show Try.prog.cellsOf 3 = 1 from by kernel_rfl] at q
      exact q
    have g3 : Cells Try.prog W 3 [c3] := by
      have q : Cells Try.prog W 3 (([c0, c1, c2, c3].drop 3).take (Try.prog.cellsOf 3)) := hf 3 _ rfl
      rw [show Try.prog.cellsOf 3 = 1 from by kernel_rfl] at q
      exact q
    obtain ⟨x0, e0, w0⟩ := g0.int_ Try.underlying3
    injection e0 with e0 _
    subst e0
    obtain ⟨x1, p1, w1, v1⟩ := rd_of_slice (enc := encPiece) (wf := wfPiece) (size := 2) (bytes := 32) Try.underlying67 (by kernel_rfl) (by kernel_rfl) (by decide) (fun es h => rPiece_of_cells es h) g1
    obtain ⟨x2, e2, w2⟩ := g2.int_ Try.underlying3
    injection e2 with e2 _
    subst e2
    obtain ⟨x3, e3, w3⟩ := g3.int_ Try.underlying3
    injection e3 with e3 _
    subst e3
    exact ⟨⟨x0, x1, x2, x3⟩, rdc (.lit _ rfl) ( rdc (p1) ( rdc (.lit _ rfl) ( rdc (.lit _ rfl) (rd0)))), ⟨i64_of_wf w0, w1, v1, i64_of_wf w2, i64_of_wf w3⟩⟩

def RSender (S : Nat → Prop) (w : World) (cs : List Value) (x : DSender) : Prop := RdC S w (encSender x) cs ∧ wfSender x
set_option maxRecDepth 100000 in
theorem rSender_of_cells {W : World} (cs : List Value) (h : Cells Try.prog W 54 cs) : ∃ x, RSender (fun b => b < W.heap.size) W cs x := by
  obtain ⟨hl, hf⟩ := h.struct_ Try.underlying54
  rw [show Try.prog.cellsOf 54 = 8 from by kernel_rfl] at hl
  match cs, hl, hf with
  | [c0, c1, c2, c3, c4, c5, c6, c7], _, hf =>
    have g0 : Cells Try.prog W 25 [c0] := by
      have q : Cells Try.prog W 25 (([c0, c1, c2, c3, c4, c5, c6, c7].drop 0).take (Try.prog.cellsOf 25)) := hf 0 _ rfl
      rw [show Try.prog.cellsOf 25 = 1 from by kernel_rfl] at q
      exact q
    have g1 : Cells Try.prog W 4 [c1] := by
      have q : Cells Try.prog W 4 (([c0, c1, c2, c3, c4, c5, c6, c7].drop 1).take (Try.prog.cellsOf 4)) := hf 1 _ rfl
      rw [show Try.prog.cellsOf 4 = 1 from by kernel_rfl] at q
      exact q
    have g2 : Cells Try.prog W 3 [c2] := by
      have q : Cells Try.prog W 3 (([c0, c1, c2, c3, c4, c5, c6, c7].drop 2).take (Try.prog.cellsOf 3)) := hf 2 _ rfl
      rw [show Try.prog.cellsOf 3 = 1 from by kernel_rfl] at q
      exact q
    have g3 : Cells Try.prog W 3 [c3] := by
      have q : Cells Try.prog W 3 (([c0, c1, c2, c3, c4, c5, c6, c7].drop 3).take (Try.prog.cellsOf 3)) := hf 3 _ rfl
      rw [show Try.prog.cellsOf 3 = 1 from by kernel_rfl] at q
      exact q
    have g4 : Cells Try.prog W 43 [c4] := by
      have q : Cells Try.prog W 43 (([c0, c1, c2, c3, c4, c5, c6, c7].drop 4).take (Try.prog.cellsOf 43)) := hf 4 _ rfl
      rw [show Try.prog.cellsOf 43 = 1 from by kernel_rfl] at q
      exact q
    have g5 : Cells Try.prog W 43 [c5] := by
      have q : Cells Try.prog W 43 (([c0, c1, c2, c3, c4, c5, c6, c7].drop 5).take (Try.prog.cellsOf 43)) := hf 5 _ rfl
      rw [show Try.prog.cellsOf 43 = 1 from by kernel_rfl] at q
      exact q
    have g6 : Cells Try.prog W 4 [c6] := by
      have q : Cells Try.prog W 4 (([c0, c1, c2, c3, c4, c5, c6, c7].drop 6).take (Try.prog.cellsOf 4)) := hf 6 _ rfl
      rw [show Try.prog.cellsOf 4 = 1 from by kernel_rfl] at q
      exact q
    have g7 : Cells Try.prog W 4 [c7] := by
      have q : Cells Try.prog W 4 (([c0, c1, c2, c3, c4, c5, c6, c7].drop 7).take (Try.prog.cellsOf 4)) := hf 7 _ rfl
      rw [show Try.prog.cellsOf 4 = 1 from by kernel_rfl] at q
      exact q
    obtain ⟨x0, p0, w0, v0⟩ := rd_of_slice (enc := encB) (wf := fun _ => True) (size := 1) (bytes := 1) Try.underlying25 (by kernel_rfl) (by kernel_rfl) (by decide) (fun es h => rdB_of_cells Try.underlying5 es h) g0
    obtain ⟨x1, e1⟩ := g1.bool_ Try.underlying4
    injection e1 with e1 _
    subst e1
    obtain ⟨x2, e2, w2⟩ := g2.int_ Try.underlying3
    injection e2 with e2 _
    subst e2
    obtain ⟨x3, e3, w3⟩ := g3.int_ Try.underlying3
    injection e3 with e3 _
    subst e3
    obtain ⟨x4, p4, w4, v4⟩ := rd_of_slice (enc := encRange) (wf := wfRange) (size := 2) (bytes := 16) Try.underlying43 (by kernel_rfl) (by kernel_rfl) (by decide) (fun es h => rRange_of_cells es h) g4
    obtain ⟨x5, p5, w5, v5⟩ := rd_of_slice (enc := encRange) (wf := wfRange) (size := 2) (bytes := 16) Try.underlying43 (by kernel_rfl) (by kernel_rfl) (by decide) (fun es h => rRange_of_cells es h) g5
    obtain ⟨x6, e6⟩ := g6.bool_ Try.underlying4
    injection e6 with e6 _
    subst e6
    obtain ⟨x7, e7⟩ := g7.bool_ Try.underlying4
    injection e7 with e7 _
    subst e7
    exact ⟨⟨x0, x1, x2, x3, x4, x5, x6, x7⟩, rdc (p0) ( rdc (.lit _ rfl) ( rdc (.lit _ rfl) ( rdc (.lit _ rfl) ( rdc (p4) ( rdc (p5) ( rdc (.lit _ rfl) ( rdc (.lit _ rfl) (rd0)))))))), ⟨w0, i64_of_wf w2, i64_of_wf w3, w4, v4, w5, v5⟩⟩

def RFrame (S : Nat → Prop) (w : World) (cs : List Value) (x : DFrame) : Prop := RdC S w (encFrame x) cs ∧ wfFrame x
set_option maxRecDepth 100000 in
theorem rFrame_of_cells {W : World} (cs : List Value) (h : Cells Try.prog W 197 cs) : ∃ x, RFrame (fun b => b < W.heap.size) W cs x := by
  obtain ⟨hl, hf⟩ := h.struct_ Try.underlying197
  rw [show Try.prog.cellsOf 197 = 7 from by kernel_rfl] at hl
  match cs, hl, hf with
  | [c0, c1, c2, c3, c4, c5, c6], _, hf =>
    have g0 : Cells Try.prog W 3 [c0] := by
      have q : Cells Try.prog W 3 (([c0, c1, c2, c3, c4, c5, c6].drop 0).take (Try.prog.cellsOf 3)) := hf 0 _ rfl
      rw [show Try.prog.cellsOf 3 = 1 from by kernel_rfl] at q
      exact q
    have g1 : Cells Try.prog W 3 [c1] := by
      have q : Cells Try.prog W 3 (([c0, c1, c2, c3, c4, c5, c6].drop 1).take (Try.prog.cellsOf 3)) := hf 1 _ rfl
      rw [show Try.prog.cellsOf 3 = 1 from by kernel_rfl] at q
      exact q
    have g2 : Cells Try.prog W 3 [c2] := by
      have q : Cells Try.prog W 3 (([c0, c1, c2, c3, c4, c5, c6].drop 2).take (Try.prog.cellsOf 3)) := hf 2 _ rfl
      rw [show Try.prog.cellsOf 3 = 1 from by kernel_rfl] at q
      exact q
    have g3 : Cells Try.prog W 4 [c3] := by
      have q : Cells Try.prog W 4 (([c0, c1, c2, c3, c4, c5, c6].drop 3).take (Try.prog.cellsOf 4)) := hf 3 _ rfl
      rw [show Try.prog.cellsOf 4 = 1 from by kernel_rfl] at q
      exact q
    have g4 : Cells Try.prog W 3 [c4] := by
      have q : Cells Try.prog W 3 (([c0, c1, c2, c3, c4, c5, c6].drop 4).take (Try.prog.cellsOf 3)) := hf 4 _ rfl
      rw [show Try.prog.cellsOf 3 = 1 from by kernel_rfl] at q
      exact q
    have g5 : Cells Try.prog W 43 [c5] := by
      have q : Cells Try.prog W 43 (([c0, c1, c2, c3, c4, c5, c6].drop 5).take (Try.prog.cellsOf 43)) := hf 5 _ rfl
      rw [show Try.prog.cellsOf 43 = 1 from by kernel_rfl] at q
      exact q
    have g6 : Cells Try.prog W 25 [c6] := by
      have q : Cells Try.prog W 25 (([c0, c1, c2, c3, c4, c5, c6].drop 6).take (Try.prog.cellsOf 25)) := hf 6 _ rfl
      rw [show Try.prog.cellsOf 25 = 1 from by kernel_rfl] at q
      exact q
    obtain ⟨x0, e0, w0⟩ := g0.int_ Try.underlying3
    injection e0 with e0 _
    subst e0
    obtain ⟨x1, e1, w1⟩ := g1.int_ Try.underlying3
    injection e1 with e1 _
    subst e1
    obtain ⟨x2, e2, w2⟩ := g2.int_ Try.underlying3
    injection e2 with e2 _
    subst e2
    obtain ⟨x3, e3⟩ := g3.bool_ Try.underlying4
    injection e3 with e3 _
    subst e3
    obtain ⟨x4, e4, w4⟩ := g4.int_ Try.underlying3
    injection e4 with e4 _
    subst e4
    obtain ⟨x5, p5, w5, v5⟩ := rd_of_slice (enc := encRange) (wf := wfRange) (size := 2) (bytes := 16) Try.underlying43 (by kernel_rfl) (by kernel_rfl) (by decide) (fun es h => rRange_of_cells es h) g5
    obtain ⟨x6, p6, w6, v6⟩ := rd_of_slice (enc := encB) (wf := fun _ => True) (size := 1) (bytes := 1) Try.underlying25 (by kernel_rfl) (by kernel_rfl) (by decide) (fun es h => rdB_of_cells Try.underlying5 es h) g6
    exact ⟨⟨x0, x1, x2, x3, x4, x5, x6⟩, rdc (.lit _ rfl) ( rdc (.lit _ rfl) ( rdc (.lit _ rfl) ( rdc (.lit _ rfl) ( rdc (.lit _ rfl) ( rdc (p5) ( rdc (p6) (rd0))))))), ⟨i64_of_wf w0, i64_of_wf w1, i64_of_wf w2, i64_of_wf w4, w5, v5, w6⟩⟩

def RParcel (S : Nat → Prop) (w : World) (cs : List Value) (x : DParcel) : Prop := RdC S w (encParcel x) cs ∧ wfParcel x
set_option maxRecDepth 100000 in
theorem rParcel_of_cells {W : World} (cs : List Value) (h : Cells Try.prog W 172 cs) : ∃ x, RParcel (fun b => b < W.heap.size) W cs x := by
  obtain ⟨hl, hf⟩ := h.struct_ Try.underlying172
  rw [show Try.prog.cellsOf 172 = 4 from by kernel_rfl] at hl
  match cs, hl, hf with
  | [c0, c1, c2, c3], _, hf =>
    have g0 : Cells Try.prog W 3 [c0] := by
      have q : Cells Try.prog W 3 (([c0, c1, c2, c3].drop 0).take (Try.prog.cellsOf 3)) := hf 0 _ rfl
      rw [show Try.prog.cellsOf 3 = 1 from by kernel_rfl] at q
      exact q
    have g1 : Cells Try.prog W 3 [c1] := by
      have q : Cells Try.prog W 3 (([c0, c1, c2, c3].drop 1).take (Try.prog.cellsOf 3)) := hf 1 _ rfl
      rw [show Try.prog.cellsOf 3 = 1 from by kernel_rfl] at q
      exact q
    have g2 : Cells Try.prog W 3 [c2] := by
      have q : Cells Try.prog W 3 (([c0, c1, c2, c3].drop 2).take (Try.prog.cellsOf 3)) := hf 2 _ rfl
      rw [show Try.prog.cellsOf 3 = 1 from by kernel_rfl] at q
      exact q
    have g3 : Cells Try.prog W 170 [c3] := by
      have q : Cells Try.prog W 170 (([c0, c1, c2, c3].drop 3).take (Try.prog.cellsOf 170)) := hf 3 _ rfl
      rw [show Try.prog.cellsOf 170 = 1 from by kernel_rfl] at q
      exact q
    obtain ⟨x0, e0, w0⟩ := g0.int_ Try.underlying3
    injection e0 with e0 _
    subst e0
    obtain ⟨x1, e1, w1⟩ := g1.int_ Try.underlying3
    injection e1 with e1 _
    subst e1
    obtain ⟨x2, e2, w2⟩ := g2.int_ Try.underlying3
    injection e2 with e2 _
    subst e2
    obtain ⟨x3, p3, w3, v3⟩ := rd_of_slice (enc := encFrame) (wf := wfFrame) (size := 7) (bytes := 88) Try.underlying170 (by kernel_rfl) (by kernel_rfl) (by decide) (fun es h => rFrame_of_cells es h) g3
    exact ⟨⟨x0, x1, x2, x3⟩, rdc (.lit _ rfl) ( rdc (.lit _ rfl) ( rdc (.lit _ rfl) ( rdc (p3) (rd0)))), ⟨i64_of_wf w0, i64_of_wf w1, i64_of_wf w2, w3, v3⟩⟩

def RSpace (S : Nat → Prop) (w : World) (cs : List Value) (x : DSpace) : Prop := RdC S w (encSpace x) cs ∧ wfSpace x
set_option maxRecDepth 100000 in
theorem rSpace_of_cells {W : World} (cs : List Value) (h : Cells Try.prog W 62 cs) : ∃ x, RSpace (fun b => b < W.heap.size) W cs x := by
  obtain ⟨hl, hf⟩ := h.struct_ Try.underlying62
  rw [show Try.prog.cellsOf 62 = 5 from by kernel_rfl] at hl
  match cs, hl, hf with
  | [c0, c1, c2, c3, c4], _, hf =>
    have g0 : Cells Try.prog W 3 [c0] := by
      have q : Cells Try.prog W 3 (([c0, c1, c2, c3, c4].drop 0).take (Try.prog.cellsOf 3)) := hf 0 _ rfl
      rw [show Try.prog.cellsOf 3 = 1 from by kernel_rfl] at q
      exact q
    have g1 : Cells Try.prog W 59 [c1] := by
      have q : Cells Try.prog W 59 (([c0, c1, c2, c3, c4].drop 1).take (Try.prog.cellsOf 59)) := hf 1 _ rfl
      rw [show Try.prog.cellsOf 59 = 1 from by kernel_rfl] at q
      exact q
    have g2 : Cells Try.prog W 3 [c2] := by
      have q : Cells Try.prog W 3 (([c0, c1, c2, c3, c4].drop 2).take (Try.prog.cellsOf 3)) := hf 2 _ rfl
      rw [show Try.prog.cellsOf 3 = 1 from by kernel_rfl] at q
      exact q
    have g3 : Cells Try.prog W 43 [c3] := by
      have q : Cells Try.prog W 43 (([c0, c1, c2, c3, c4].drop 3).take (Try.prog.cellsOf 43)) := hf 3 _ rfl
      rw [show Try.prog.cellsOf 43 = 1 from by kernel_rfl] at q
      exact q
    have g4 : Cells Try.prog W 60 [c4] := by
      have q : Cells Try.prog W 60 (([c0, c1, c2, c3, c4].drop 4).take (Try.prog.cellsOf 60)) := hf 4 _ rfl
      rw [show Try.prog.cellsOf 60 = 1 from by kernel_rfl] at q
      exact q
    obtain ⟨x0, e0, w0⟩ := g0.int_ Try.underlying3
    injection e0 with e0 _
    subst e0
    obtain ⟨x1, p1, w1, v1⟩ := rd_of_slice (enc := encParcel) (wf := wfParcel) (size := 4) (bytes := 48) Try.underlying59 (by kernel_rfl) (by kernel_rfl) (by decide) (fun es h => rParcel_of_cells es h) g1
    obtain ⟨x2, e2, w2⟩ := g2.int_ Try.underlying3
    injection e2 with e2 _
    subst e2
    obtain ⟨x3, p3, w3, v3⟩ := rd_of_slice (enc := encRange) (wf := wfRange) (size := 2) (bytes := 16) Try.underlying43 (by kernel_rfl) (by kernel_rfl) (by decide) (fun es h => rRange_of_cells es h) g3
    obtain ⟨x4, p4, w4, v4⟩ := rd_of_slice (enc := encI) (wf := I64) (size := 1) (bytes := 8) Try.underlying60 (by kernel_rfl) (by kernel_rfl) (by decide) (fun es h => rdI_of_cells Try.underlying3 es h) g4
    exact ⟨⟨x0, x1, x2, x3, x4⟩, rdc (.lit _ rfl) ( rdc (p1) ( rdc (.lit _ rfl) ( rdc (p3) ( rdc (p4) (rd0))))), ⟨i64_of_wf w0, w1, v1, i64_of_wf w2, w3, v3, w4, v4⟩⟩

def RTable (S : Nat → Prop) (w : World) (cs : List Value) (x : DTable) : Prop := RdC S w (encTable x) cs ∧ wfTable x
set_option maxRecDepth 100000 in
theorem rTable_of_cells {W : World} (cs : List Value) (h : Cells Try.prog W 24 cs) : ∃ x, RTable (fun b => b < W.heap.size) W cs x := by
  obtain ⟨hl, hf⟩ := h.struct_ Try.underlying24
  rw [show Try.prog.cellsOf 24 = 3 from by kernel_rfl] at hl
  match cs, hl, hf with
  | [c0, c1, c2], _, hf =>
    have g0 : Cells Try.prog W 3 [c0] := by
      have q : Cells Try.prog W 3 (([c0, c1, c2].drop 0).take (Try.prog.cellsOf 3)) := hf 0 _ rfl
      rw [show Try.prog.cellsOf 3 = 1 from by kernel_rfl] at q
      exact q
    have g1 : Cells Try.prog W 3 [c1] := by
      have q : Cells Try.prog W 3 (([c0, c1, c2].drop 1).take (Try.prog.cellsOf 3)) := hf 1 _ rfl
      rw [show Try.prog.cellsOf 3 = 1 from by kernel_rfl] at q
      exact q
    have g2 : Cells Try.prog W 22 [c2] := by
      have q : Cells Try.prog W 22 (([c0, c1, c2].drop 2).take (Try.prog.cellsOf 22)) := hf 2 _ rfl
      rw [show Try.prog.cellsOf 22 = 1 from by kernel_rfl] at q
      exact q
    obtain ⟨x0, e0, w0⟩ := g0.int_ Try.underlying3
    injection e0 with e0 _
    subst e0
    obtain ⟨x1, e1, w1⟩ := g1.int_ Try.underlying3
    injection e1 with e1 _
    subst e1
    obtain ⟨x2, p2, w2, v2⟩ := rd_of_slice (enc := encField) (wf := wfField) (size := 2) (bytes := 32) Try.underlying22 (by kernel_rfl) (by kernel_rfl) (by decide) (fun es h => rField_of_cells es h) g2
    exact ⟨⟨x0, x1, x2⟩, rdc (.lit _ rfl) ( rdc (.lit _ rfl) ( rdc (p2) (rd0))), ⟨i64_of_wf w0, i64_of_wf w1, w2, v2⟩⟩

def RRequest (S : Nat → Prop) (w : World) (cs : List Value) (x : DRequest) : Prop := RdC S w (encRequest x) cs ∧ wfRequest x
set_option maxRecDepth 100000 in
theorem rRequest_of_cells {W : World} (cs : List Value) (h : Cells Try.prog W 75 cs) : ∃ x, RRequest (fun b => b < W.heap.size) W cs x := by
  obtain ⟨hl, hf⟩ := h.struct_ Try.underlying75
  rw [show Try.prog.cellsOf 75 = 2 from by kernel_rfl] at hl
  match cs, hl, hf with
  | [c0, c1], _, hf =>
    have g0 : Cells Try.prog W 22 [c0] := by
      have q : Cells Try.prog W 22 (([c0, c1].drop 0).take (Try.prog.cellsOf 22)) := hf 0 _ rfl
      rw [show Try.prog.cellsOf 22 = 1 from by kernel_rfl] at q
      exact q
    have g1 : Cells Try.prog W 25 [c1] := by
      have q : Cells Try.prog W 25 (([c0, c1].drop 1).take (Try.prog.cellsOf 25)) := hf 1 _ rfl
      rw [show Try.prog.cellsOf 25 = 1 from by kernel_rfl] at q
      exact q
    obtain ⟨x0, p0, w0, v0⟩ := rd_of_slice (enc := encField) (wf := wfField) (size := 2) (bytes := 32) Try.underlying22 (by kernel_rfl) (by kernel_rfl) (by decide) (fun es h => rField_of_cells es h) g0
    obtain ⟨x1, p1, w1, v1⟩ := rd_of_slice (enc := encB) (wf := fun _ => True) (size := 1) (bytes := 1) Try.underlying25 (by kernel_rfl) (by kernel_rfl) (by decide) (fun es h => rdB_of_cells Try.underlying5 es h) g1
    exact ⟨⟨x0, x1⟩, rdc (p0) ( rdc (p1) (rd0)), ⟨w0, v0, w1⟩⟩

def RReader (S : Nat → Prop) (w : World) (cs : List Value) (x : DReader) : Prop := RdC S w (encReader x) cs ∧ wfReader x
set_option maxRecDepth 100000 in
theorem rReader_of_cells {W : World} (cs : List Value) (h : Cells Try.prog W 80 cs) : ∃ x, RReader (fun b => b < W.heap.size) W cs x := by
  obtain ⟨hl, hf⟩ := h.struct_ Try.underlying80
  rw [show Try.prog.cellsOf 80 = 5 from by kernel_rfl] at hl
  match cs, hl, hf with
  | [c0, c1, c2, c3, c4], _, hf =>
    have g0 : Cells Try.prog W 25 [c0] := by
      have q : Cells Try.prog W 25 (([c0, c1, c2, c3, c4].drop 0).take (Try.prog.cellsOf 25)) := hf 0 _ rfl
      rw [show Try.prog.cellsOf 25 = 1 from by kernel_rfl] at q
      exact q
    have g1 : Cells Try.prog W 22 [c1] := by
      have q : Cells Try.prog W 22 (([c0, c1, c2, c3, c4].drop 1).take (Try.prog.cellsOf 22)) := hf 1 _ rfl
      rw [show Try.prog.cellsOf 22 = 1 from by kernel_rfl] at q
      exact q
    have g2 : Cells Try.prog W 4 [c2] := by
      have q : Cells Try.prog W 4 (([c0, c1, c2, c3, c4].drop 2).take (Try.prog.cellsOf 4)) := hf 2 _ rfl
      rw [show Try.prog.cellsOf 4 = 1 from by kernel_rfl] at q
      exact q
    have g3 : Cells Try.prog W 25 [c3] := by
      have q : Cells Try.prog W 25 (([c0, c1, c2, c3, c4].drop 3).take (Try.prog.cellsOf 25)) := hf 3 _ rfl
      rw [show Try.prog.cellsOf 25 = 1 from by kernel_rfl] at q
      exact q
    have g4 : Cells Try.prog W 4 [c4] := by
      have q : Cells Try.prog W 4 (([c0, c1, c2, c3, c4].drop 4).take (Try.prog.cellsOf 4)) := hf 4 _ rfl
      rw [show Try.prog.cellsOf 4 = 1 from by kernel_rfl] at q
      exact q
    obtain ⟨x0, p0, w0, v0⟩ := rd_of_slice (enc := encB) (wf := fun _ => True) (size := 1) (bytes := 1) Try.underlying25 (by kernel_rfl) (by kernel_rfl) (by decide) (fun es h => rdB_of_cells Try.underlying5 es h) g0
    obtain ⟨x1, p1, w1, v1⟩ := rd_of_slice (enc := encField) (wf := wfField) (size := 2) (bytes := 32) Try.underlying22 (by kernel_rfl) (by kernel_rfl) (by decide) (fun es h => rField_of_cells es h) g1
    obtain ⟨x2, e2⟩ := g2.bool_ Try.underlying4
    injection e2 with e2 _
    subst e2
    obtain ⟨x3, p3, w3, v3⟩ := rd_of_slice (enc := encB) (wf := fun _ => True) (size := 1) (bytes := 1) Try.underlying25 (by kernel_rfl) (by kernel_rfl) (by decide) (fun es h => rdB_of_cells Try.underlying5 es h) g3
    obtain ⟨x4, e4⟩ := g4.bool_ Try.underlying4
    injection e4 with e4 _
    subst e4
    exact ⟨⟨x0, x1, x2, x3, x4⟩, rdc (p0) ( rdc (p1) ( rdc (.lit _ rfl) ( rdc (p3) ( rdc (.lit _ rfl) (rd0))))), ⟨w0, w1, v1, w3⟩⟩

end Go.Proofs.Ytnbbnedpjfanoaa
