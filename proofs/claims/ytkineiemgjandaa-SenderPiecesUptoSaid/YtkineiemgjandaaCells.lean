/-
  THE STRUCTS OF PACKAGE api, read out of an argument. Written by a program (mkenc.py).
-/
import Derived.Test.YtkineiemgjandaaRead
import Derived.Test.YtkineiemgjandaaProg
set_option linter.unusedVariables false
namespace Go.Proofs.Ytkineiemgjandaa
open Go.ChangeShapes Go.WideShapes Go.ChangeAt Go.RowKit Go.Deep

def RRange (S : Nat → Prop) (w : World) (cs : List Value) (x : DRange) : Prop := RdC S w (encRange x) cs ∧ wfRange x
set_option maxRecDepth 100000 in
theorem rRange_of_cells {W : World} (cs : List Value) (h : Cells Try.prog W 85 cs) : ∃ x, RRange (fun b => b < W.heap.size) W cs x := by
  obtain ⟨hl, hf⟩ := h.struct_ Try.underlying85
  rw [show Try.prog.cellsOf 85 = 2 from by kernel_rfl] at hl
  match cs, hl, hf with
  | [c0, c1], _, hf =>
    have g0 : Cells Try.prog W 3 [c0] := by
      have q : Cells Try.prog W 3 (([c0, c1].drop 0).take (Try.prog.cellsOf 3)) := hf 0 _ rfl
      rw [show Try.prog.cellsOf 3 = 1 from by kernel_rfl] at q
      exact q
    have g1 : Cells Try.prog W 3 [c1] := by
      have q : Cells Try.prog W 3 (([c0, c1].drop 1).take (Try.prog.cellsOf 3)) := hf 1 _ rfl
      rw [show Try.prog.cellsOf 3 = 1 from by kernel_rfl] at q
      exact q
    obtain ⟨x0, e0, w0⟩ := g0.int_ Try.underlying3
    injection e0 with e0 _
    subst e0
    obtain ⟨x1, e1, w1⟩ := g1.int_ Try.underlying3
    injection e1 with e1 _
    subst e1
    exact ⟨⟨x0, x1⟩, rdc (.lit _ rfl) ( rdc (.lit _ rfl) (rd0)), ⟨i64_of_wf w0, i64_of_wf w1⟩⟩

def RSender (S : Nat → Prop) (w : World) (cs : List Value) (x : DSender) : Prop := RdC S w (encSender x) cs ∧ wfSender x
set_option maxRecDepth 100000 in
theorem rSender_of_cells {W : World} (cs : List Value) (h : Cells Try.prog W 38 cs) : ∃ x, RSender (fun b => b < W.heap.size) W cs x := by
  obtain ⟨hl, hf⟩ := h.struct_ Try.underlying38
  rw [show Try.prog.cellsOf 38 = 8 from by kernel_rfl] at hl
  match cs, hl, hf with
  | [c0, c1, c2, c3, c4, c5, c6, c7], _, hf =>
    have g0 : Cells Try.prog W 22 [c0] := by
      have q : Cells Try.prog W 22 (([c0, c1, c2, c3, c4, c5, c6, c7].drop 0).take (Try.prog.cellsOf 22)) := hf 0 _ rfl
      rw [show Try.prog.cellsOf 22 = 1 from by kernel_rfl] at q
      exact q
    have g1 : Cells Try.prog W 4 [c1] := by
      have q : Cells Try.prog W 4 (([c0, c1, c2, c3, c4, c5, c6, c7].drop 1).take (Try.prog.cellsOf 4)) := hf 1 _ rfl
      rw [show Try.prog.cellsOf 4 = 1 from by kernel_rfl] at q
      exact q
    have g2 : Cells Try.prog W 3 [c2] := by
      have q : Cells Try.prog W 3 (([c0, c1, c2, c3, c4, c5, c6, c7].drop 2).take (Try.prog.cellsOf 3)) := hf 2 _ rfl
      rw [show Try.prog.cellsOf 3 = 1 from by kernel_rfl] at q
      exact q
    have g3 : Cells Try.prog W 3 [c3] := by
      have q : Cells Try.prog W 3 (([c0, c1, c2, c3, c4, c5, c6, c7].drop 3).take (Try.prog.cellsOf 3)) := hf 3 _ rfl
      rw [show Try.prog.cellsOf 3 = 1 from by kernel_rfl] at q
      exact q
    have g4 : Cells Try.prog W 36 [c4] := by
      have q : Cells Try.prog W 36 (([c0, c1, c2, c3, c4, c5, c6, c7].drop 4).take (Try.prog.cellsOf 36)) := hf 4 _ rfl
      rw [show Try.prog.cellsOf 36 = 1 from by kernel_rfl] at q
      exact q
    have g5 : Cells Try.prog W 36 [c5] := by
      have q : Cells Try.prog W 36 (([c0, c1, c2, c3, c4, c5, c6, c7].drop 5).take (Try.prog.cellsOf 36)) := hf 5 _ rfl
      rw [show Try.prog.cellsOf 36 = 1 from by kernel_rfl] at q
      exact q
    have g6 : Cells Try.prog W 4 [c6] := by
      have q : Cells Try.prog W 4 (([c0, c1, c2, c3, c4, c5, c6, c7].drop 6).take (Try.prog.cellsOf 4)) := hf 6 _ rfl
      rw [show Try.prog.cellsOf 4 = 1 from by kernel_rfl] at q
      exact q
    have g7 : Cells Try.prog W 4 [c7] := by
      have q : Cells Try.prog W 4 (([c0, c1, c2, c3, c4, c5, c6, c7].drop 7).take (Try.prog.cellsOf 4)) := hf 7 _ rfl
      rw [show Try.prog.cellsOf 4 = 1 from by kernel_rfl] at q
      exact q
    obtain ⟨x0, p0, w0, v0⟩ := rd_of_slice (enc := encB) (wf := fun _ => True) (size := 1) (bytes := 1) Try.underlying22 (by kernel_rfl) (by kernel_rfl) (by decide) (fun es h => rdB_of_cells Try.underlying5 es h) g0
    obtain ⟨x1, e1⟩ := g1.bool_ Try.underlying4
    injection e1 with e1 _
    subst e1
    obtain ⟨x2, e2, w2⟩ := g2.int_ Try.underlying3
    injection e2 with e2 _
    subst e2
    obtain ⟨x3, e3, w3⟩ := g3.int_ Try.underlying3
    injection e3 with e3 _
    subst e3
    obtain ⟨x4, p4, w4, v4⟩ := rd_of_slice (enc := encRange) (wf := wfRange) (size := 2) (bytes := 16) Try.underlying36 (by kernel_rfl) (by kernel_rfl) (by decide) (fun es h => rRange_of_cells es h) g4
    obtain ⟨x5, p5, w5, v5⟩ := rd_of_slice (enc := encRange) (wf := wfRange) (size := 2) (bytes := 16) Try.underlying36 (by kernel_rfl) (by kernel_rfl) (by decide) (fun es h => rRange_of_cells es h) g5
    obtain ⟨x6, e6⟩ := g6.bool_ Try.underlying4
    injection e6 with e6 _
    subst e6
    obtain ⟨x7, e7⟩ := g7.bool_ Try.underlying4
    injection e7 with e7 _
    subst e7
    exact ⟨⟨x0, x1, x2, x3, x4, x5, x6, x7⟩, rdc (p0) ( rdc (.lit _ rfl) ( rdc (.lit _ rfl) ( rdc (.lit _ rfl) ( rdc (p4) ( rdc (p5) ( rdc (.lit _ rfl) ( rdc (.lit _ rfl) (rd0)))))))), ⟨w0, i64_of_wf w2, i64_of_wf w3, w4, v4, w5, v5⟩⟩

def RFrame (S : Nat → Prop) (w : World) (cs : List Value) (x : DFrame) : Prop := RdC S w (encFrame x) cs ∧ wfFrame x
set_option maxRecDepth 100000 in
theorem rFrame_of_cells {W : World} (cs : List Value) (h : Cells Try.prog W 49 cs) : ∃ x, RFrame (fun b => b < W.heap.size) W cs x := by
  obtain ⟨hl, hf⟩ := h.struct_ Try.underlying49
  rw [show Try.prog.cellsOf 49 = 7 from by kernel_rfl] at hl
  match cs, hl, hf with
  | [c0, c1, c2, c3, c4, c5, c6], _, hf =>
    have g0 : Cells Try.prog W 3 [c0] := by
      have q : Cells Try.prog W 3 (([c0, c1, c2, c3, c4, c5, c6].drop 0).take (Try.prog.cellsOf 3)) := hf 0 _ rfl
      rw [show Try.prog.cellsOf 3 = 1 from by kernel_rfl] at q
      exact q
    have g1 : Cells Try.prog W 3 [c1] := by
      have q : Cells Try.prog W 3 (([c0, c1, c2, c3, c4, c5, c6].drop 1).take (Try.prog.cellsOf 3)) := hf 1 _ rfl
      rw [show Try.prog.cellsOf 3 = 1 from by kernel_rfl] at q
      exact q
    have g2 : Cells Try.prog W 3 [c2] := by
      have q : Cells Try.prog W 3 (([c0, c1, c2, c3, c4, c5, c6].drop 2).take (Try.prog.cellsOf 3)) := hf 2 _ rfl
      rw [show Try.prog.cellsOf 3 = 1 from by kernel_rfl] at q
      exact q
    have g3 : Cells Try.prog W 4 [c3] := by
      have q : Cells Try.prog W 4 (([c0, c1, c2, c3, c4, c5, c6].drop 3).take (Try.prog.cellsOf 4)) := hf 3 _ rfl
      rw [show Try.prog.cellsOf 4 = 1 from by kernel_rfl] at q
      exact q
    have g4 : Cells Try.prog W 3 [c4] := by
      have q : Cells Try.prog W 3 (([c0, c1, c2, c3, c4, c5, c6].drop 4).take (Try.prog.cellsOf 3)) := hf 4 _ rfl
      rw [show Try.prog.cellsOf 3 = 1 from by kernel_rfl] at q
      exact q
    have g5 : Cells Try.prog W 36 [c5] := by
      have q : Cells Try.prog W 36 (([c0, c1, c2, c3, c4, c5, c6].drop 5).take (Try.prog.cellsOf 36)) := hf 5 _ rfl
      rw [show Try.prog.cellsOf 36 = 1 from by kernel_rfl] at q
      exact q
    have g6 : Cells Try.prog W 22 [c6] := by
      have q : Cells Try.prog W 22 (([c0, c1, c2, c3, c4, c5, c6].drop 6).take (Try.prog.cellsOf 22)) := hf 6 _ rfl
      rw [show Try.prog.cellsOf 22 = 1 from by kernel_rfl] at q
      exact q
    obtain ⟨x0, e0, w0⟩ := g0.int_ Try.underlying3
    injection e0 with e0 _
    subst e0
    obtain ⟨x1, e1, w1⟩ := g1.int_ Try.underlying3
    injection e1 with e1 _
    subst e1
    obtain ⟨x2, e2, w2⟩ := g2.int_ Try.underlying3
    injection e2 with e2 _
    subst e2
    obtain ⟨x3, e3⟩ := g3.bool_ Try.underlying4
    injection e3 with e3 _
    subst e3
    obtain ⟨x4, e4, w4⟩ := g4.int_ Try.underlying3
    injection e4 with e4 _
    subst e4
    obtain ⟨x5, p5, w5, v5⟩ := rd_of_slice (enc := encRange) (wf := wfRange) (size := 2) (bytes := 16) Try.underlying36 (by kernel_rfl) (by kernel_rfl) (by decide) (fun es h => rRange_of_cells es h) g5
    obtain ⟨x6, p6, w6, v6⟩ := rd_of_slice (enc := encB) (wf := fun _ => True) (size := 1) (bytes := 1) Try.underlying22 (by kernel_rfl) (by kernel_rfl) (by decide) (fun es h => rdB_of_cells Try.underlying5 es h) g6
    exact ⟨⟨x0, x1, x2, x3, x4, x5, x6⟩, rdc (.lit _ rfl) ( rdc (.lit _ rfl) ( rdc (.lit _ rfl) ( rdc (.lit _ rfl) ( rdc (.lit _ rfl) ( rdc (p5) ( rdc (p6) (rd0))))))), ⟨i64_of_wf w0, i64_of_wf w1, i64_of_wf w2, i64_of_wf w4, w5, v5, w6⟩⟩

def RHead (S : Nat → Prop) (w : World) (cs : List Value) (x : DHead) : Prop := RdC S w (encHead x) cs ∧ wfHead x
set_option maxRecDepth 100000 in
theorem rHead_of_cells {W : World} (cs : List Value) (h : Cells Try.prog W 57 cs) : ∃ x, RHead (fun b => b < W.heap.size) W cs x := by
  obtain ⟨hl, hf⟩ := h.struct_ Try.underlying57
  rw [show Try.prog.cellsOf 57 = 6 from by kernel_rfl] at hl
  match cs, hl, hf with
  | [c0, c1, c2, c3, c4, c5], _, hf =>
    have g0 : Cells Try.prog W 3 [c0] := by
      have q : Cells Try.prog W 3 (([c0, c1, c2, c3, c4, c5].drop 0).take (Try.prog.cellsOf 3)) := hf 0 _ rfl
      rw [show Try.prog.cellsOf 3 = 1 from by kernel_rfl] at q
      exact q
    have g1 : Cells Try.prog W 3 [c1] := by
      have q : Cells Try.prog W 3 (([c0, c1, c2, c3, c4, c5].drop 1).take (Try.prog.cellsOf 3)) := hf 1 _ rfl
      rw [show Try.prog.cellsOf 3 = 1 from by kernel_rfl] at q
      exact q
    have g2 : Cells Try.prog W 3 [c2] := by
      have q : Cells Try.prog W 3 (([c0, c1, c2, c3, c4, c5].drop 2).take (Try.prog.cellsOf 3)) := hf 2 _ rfl
      rw [show Try.prog.cellsOf 3 = 1 from by kernel_rfl] at q
      exact q
    have g3 : Cells Try.prog W 22 [c3] := by
      have q : Cells Try.prog W 22 (([c0, c1, c2, c3, c4, c5].drop 3).take (Try.prog.cellsOf 22)) := hf 3 _ rfl
      rw [show Try.prog.cellsOf 22 = 1 from by kernel_rfl] at q
      exact q
    have g4 : Cells Try.prog W 3 [c4] := by
      have q : Cells Try.prog W 3 (([c0, c1, c2, c3, c4, c5].drop 4).take (Try.prog.cellsOf 3)) := hf 4 _ rfl
      rw [show Try.prog.cellsOf 3 = 1 from by kernel_rfl] at q
      exact q
    have g5 : Cells Try.prog W 3 [c5] := by
      have q : Cells Try.prog W 3 (([c0, c1, c2, c3, c4, c5].drop 5).take (Try.prog.cellsOf 3)) := hf 5 _ rfl
      rw [show Try.prog.cellsOf 3 = 1 from by kernel_rfl] at q
      exact q
    obtain ⟨x0, e0, w0⟩ := g0.int_ Try.underlying3
    injection e0 with e0 _
    subst e0
    obtain ⟨x1, e1, w1⟩ := g1.int_ Try.underlying3
    injection e1 with e1 _
    subst e1
    obtain ⟨x2, e2, w2⟩ := g2.int_ Try.underlying3
    injection e2 with e2 _
    subst e2
    obtain ⟨x3, p3, w3, v3⟩ := rd_of_slice (enc := encB) (wf := fun _ => True) (size := 1) (bytes := 1) Try.underlying22 (by kernel_rfl) (by kernel_rfl) (by decide) (fun es h => rdB_of_cells Try.underlying5 es h) g3
    obtain ⟨x4, e4, w4⟩ := g4.int_ Try.underlying3
    injection e4 with e4 _
    subst e4
    obtain ⟨x5, e5, w5⟩ := g5.int_ Try.underlying3
    injection e5 with e5 _
    subst e5
    exact ⟨⟨x0, x1, x2, x3, x4, x5⟩, rdc (.lit _ rfl) ( rdc (.lit _ rfl) ( rdc (.lit _ rfl) ( rdc (p3) ( rdc (.lit _ rfl) ( rdc (.lit _ rfl) (rd0)))))), ⟨i64_of_wf w0, i64_of_wf w1, i64_of_wf w2, w3, i64_of_wf w4, i64_of_wf w5⟩⟩

end Go.Proofs.Ytkineiemgjandaa
