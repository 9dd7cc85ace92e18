
import Derived.Test.YtendheafcbickaaGreatHMg49
import Derived.Test.YtendheafcbickaaGreatProg
set_option linter.unusedVariables false
namespace Go.Proofs.YtendheafcbickaaGreat.U
open Go.ChangeShapes Go.WideShapes Go.ChangeAt Go.RowKit Go.Deep
def RRange (S:Nat→Prop) (w:World) (cs:List Value) (x:DRange):Prop:=RdC S w (encRange x) cs∧wfRange x
set_option maxRecDepth 100000 in
theorem rRange_of_cells {W:World} (cs:List Value) (h:Cells Tryz.prog W 146 cs):∃ x,RRange (fun b=>b<W.heap.size) W cs x:=by
  obtain ⟨hl,hf⟩:=h.struct_ Tryz.underlying146
  rw [show Tryz.prog.cellsOf 146 = 2 from by kernel_rfl] at hl
  match cs,hl,hf with
  | [c0,c1],_,hf=>
    have g0:Cells Tryz.prog W 3 [c0]:=by
      have q:Cells Tryz.prog W 3 (([c0,c1].drop 0).take (Tryz.prog.cellsOf 3)):=hf 0 _ rfl
      rw [show Tryz.prog.cellsOf 3 = 1 from by kernel_rfl] at q
      exact q
    have g1:Cells Tryz.prog W 3 [c1]:=by
      have q:Cells Tryz.prog W 3 (([c0,c1].drop 1).take (Tryz.prog.cellsOf 3)):=hf 1 _ rfl
      rw [show Tryz.prog.cellsOf 3 = 1 from by kernel_rfl] at q
      exact q
    obtain ⟨x0,e0,w0⟩:=g0.int_ Tryz.underlying3
    injection e0 with e0 _
    subst e0
    obtain ⟨x1,e1,w1⟩:=g1.int_ Tryz.underlying3
    injection e1 with e1 _
    subst e1
    exact ⟨⟨x0,x1⟩,rdc (.lit _ rfl) (rdc (.lit _ rfl) (rd0)),⟨i64_of_wf w0,i64_of_wf w1⟩⟩
def RFlow (S:Nat→Prop) (w:World) (cs:List Value) (x:DFlow):Prop:=RdC S w (encFlow x) cs∧wfFlow x
set_option maxRecDepth 100000 in
theorem rFlow_of_cells {W:World} (cs:List Value) (h:Cells Tryz.prog W 47 cs):∃ x,RFlow (fun b=>b<W.heap.size) W cs x:=by
  obtain ⟨hl,hf⟩:=h.struct_ Tryz.underlying47
  rw [show Tryz.prog.cellsOf 47 = 2 from by kernel_rfl] at hl
  match cs,hl,hf with
  | [c0,c1],_,hf=>
    have g0:Cells Tryz.prog W 3 [c0]:=by
      have q:Cells Tryz.prog W 3 (([c0,c1].drop 0).take (Tryz.prog.cellsOf 3)):=hf 0 _ rfl
      rw [show Tryz.prog.cellsOf 3 = 1 from by kernel_rfl] at q
      exact q
    have g1:Cells Tryz.prog W 3 [c1]:=by
      have q:Cells Tryz.prog W 3 (([c0,c1].drop 1).take (Tryz.prog.cellsOf 3)):=hf 1 _ rfl
      rw [show Tryz.prog.cellsOf 3 = 1 from by kernel_rfl] at q
      exact q
    obtain ⟨x0,e0,w0⟩:=g0.int_ Tryz.underlying3
    injection e0 with e0 _
    subst e0
    obtain ⟨x1,e1,w1⟩:=g1.int_ Tryz.underlying3
    injection e1 with e1 _
    subst e1
    exact ⟨⟨x0,x1⟩,rdc (.lit _ rfl) (rdc (.lit _ rfl) (rd0)),⟨i64_of_wf w0,i64_of_wf w1⟩⟩
def RPace (S:Nat→Prop) (w:World) (cs:List Value) (x:DPace):Prop:=RdC S w (encPace x) cs∧wfPace x
set_option maxRecDepth 100000 in
theorem rPace_of_cells {W:World} (cs:List Value) (h:Cells Tryz.prog W 45 cs):∃ x,RPace (fun b=>b<W.heap.size) W cs x:=by
  obtain ⟨hl,hf⟩:=h.struct_ Tryz.underlying45
  rw [show Tryz.prog.cellsOf 45 = 4 from by kernel_rfl] at hl
  match cs,hl,hf with
  | [c0,c1,c2,c3],_,hf=>
    have g0:Cells Tryz.prog W 3 [c0]:=by
      have q:Cells Tryz.prog W 3 (([c0,c1,c2,c3].drop 0).take (Tryz.prog.cellsOf 3)):=hf 0 _ rfl
      rw [show Tryz.prog.cellsOf 3 = 1 from by kernel_rfl] at q
      exact q
    have g1:Cells Tryz.prog W 3 [c1]:=by
      have q:Cells Tryz.prog W 3 (([c0,c1,c2,c3].drop 1).take (Tryz.prog.cellsOf 3)):=hf 1 _ rfl
      rw [show Tryz.prog.cellsOf 3 = 1 from by kernel_rfl] at q
      exact q
    have g2:Cells Tryz.prog W 3 [c2]:=by
      have q:Cells Tryz.prog W 3 (([c0,c1,c2,c3].drop 2).take (Tryz.prog.cellsOf 3)):=hf 2 _ rfl
      rw [show Tryz.prog.cellsOf 3 = 1 from by kernel_rfl] at q
      exact q
    have g3:Cells Tryz.prog W 3 [c3]:=by
      have q:Cells Tryz.prog W 3 (([c0,c1,c2,c3].drop 3).take (Tryz.prog.cellsOf 3)):=hf 3 _ rfl
      rw [show Tryz.prog.cellsOf 3 = 1 from by kernel_rfl] at q
      exact q
    obtain ⟨x0,e0,w0⟩:=g0.int_ Tryz.underlying3
    injection e0 with e0 _
    subst e0
    obtain ⟨x1,e1,w1⟩:=g1.int_ Tryz.underlying3
    injection e1 with e1 _
    subst e1
    obtain ⟨x2,e2,w2⟩:=g2.int_ Tryz.underlying3
    injection e2 with e2 _
    subst e2
    obtain ⟨x3,e3,w3⟩:=g3.int_ Tryz.underlying3
    injection e3 with e3 _
    subst e3
    exact ⟨⟨x0,x1,x2,x3⟩,rdc (.lit _ rfl) (rdc (.lit _ rfl) (rdc (.lit _ rfl) (rdc (.lit _ rfl) (rd0)))),⟨i64_of_wf w0,i64_of_wf w1,i64_of_wf w2,i64_of_wf w3⟩⟩
def RTally (S:Nat→Prop) (w:World) (cs:List Value) (x:DTally):Prop:=RdC S w (encTally x) cs∧wfTally x
set_option maxRecDepth 100000 in
theorem rTally_of_cells {W:World} (cs:List Value) (h:Cells Tryz.prog W 25 cs):∃ x,RTally (fun b=>b<W.heap.size) W cs x:=by
  obtain ⟨hl,hf⟩:=h.struct_ Tryz.underlying25
  rw [show Tryz.prog.cellsOf 25 = 3 from by kernel_rfl] at hl
  match cs,hl,hf with
  | [c0,c1,c2],_,hf=>
    have g0:Cells Tryz.prog W 4 [c0]:=by
      have q:Cells Tryz.prog W 4 (([c0,c1,c2].drop 0).take (Tryz.prog.cellsOf 4)):=hf 0 _ rfl
      rw [show Tryz.prog.cellsOf 4 = 1 from by kernel_rfl] at q
      exact q
    have g1:Cells Tryz.prog W 3 [c1]:=by
      have q:Cells Tryz.prog W 3 (([c0,c1,c2].drop 1).take (Tryz.prog.cellsOf 3)):=hf 1 _ rfl
      rw [show Tryz.prog.cellsOf 3 = 1 from by kernel_rfl] at q
      exact q
    have g2:Cells Tryz.prog W 3 [c2]:=by
      have q:Cells Tryz.prog W 3 (([c0,c1,c2].drop 2).take (Tryz.prog.cellsOf 3)):=hf 2 _ rfl
      rw [show Tryz.prog.cellsOf 3 = 1 from by kernel_rfl] at q
      exact q
    obtain ⟨x0,e0⟩:=g0.bool_ Tryz.underlying4
    injection e0 with e0 _
    subst e0
    obtain ⟨x1,e1,w1⟩:=g1.int_ Tryz.underlying3
    injection e1 with e1 _
    subst e1
    obtain ⟨x2,e2,w2⟩:=g2.int_ Tryz.underlying3
    injection e2 with e2 _
    subst e2
    exact ⟨⟨x0,x1,x2⟩,rdc (.lit _ rfl) (rdc (.lit _ rfl) (rdc (.lit _ rfl) (rd0))),⟨i64_of_wf w1,i64_of_wf w2⟩⟩
def RPiece (S:Nat→Prop) (w:World) (cs:List Value) (x:DPiece):Prop:=RdC S w (encPiece x) cs∧wfPiece x
set_option maxRecDepth 100000 in
theorem rPiece_of_cells {W:World} (cs:List Value) (h:Cells Tryz.prog W 235 cs):∃ x,RPiece (fun b=>b<W.heap.size) W cs x:=by
  obtain ⟨hl,hf⟩:=h.struct_ Tryz.underlying235
  rw [show Tryz.prog.cellsOf 235 = 2 from by kernel_rfl] at hl
  match cs,hl,hf with
  | [c0,c1],_,hf=>
    have g0:Cells Tryz.prog W 3 [c0]:=by
      have q:Cells Tryz.prog W 3 (([c0,c1].drop 0).take (Tryz.prog.cellsOf 3)):=hf 0 _ rfl
      rw [show Tryz.prog.cellsOf 3 = 1 from by kernel_rfl] at q
      exact q
    have g1:Cells Tryz.prog W 29 [c1]:=by
      have q:Cells Tryz.prog W 29 (([c0,c1].drop 1).take (Tryz.prog.cellsOf 29)):=hf 1 _ rfl
      rw [show Tryz.prog.cellsOf 29 = 1 from by kernel_rfl] at q
      exact q
    obtain ⟨x0,e0,w0⟩:=g0.int_ Tryz.underlying3
    injection e0 with e0 _
    subst e0
    obtain ⟨x1,p1,w1,v1⟩:=rd_of_slice (enc:=encB) (wf:=fun _=>True) (size:=1) (bytes:=1) Tryz.underlying29 (by kernel_rfl) (by kernel_rfl) (by decide) (fun es h=>rdB_of_cells Tryz.underlying5 es h) g1
    exact ⟨⟨x0,x1⟩,rdc (.lit _ rfl) (rdc (p1) (rd0)),⟨i64_of_wf w0,w1⟩⟩
def RGather (S:Nat→Prop) (w:World) (cs:List Value) (x:DGather):Prop:=RdC S w (encGather x) cs∧wfGather x
set_option maxRecDepth 100000 in
theorem rGather_of_cells {W:World} (cs:List Value) (h:Cells Tryz.prog W 130 cs):∃ x,RGather (fun b=>b<W.heap.size) W cs x:=by
  obtain ⟨hl,hf⟩:=h.struct_ Tryz.underlying130
  rw [show Tryz.prog.cellsOf 130 = 4 from by kernel_rfl] at hl
  match cs,hl,hf with
  | [c0,c1,c2,c3],_,hf=>
    have g0:Cells Tryz.prog W 3 [c0]:=by
      have q:Cells Tryz.prog W 3 (([c0,c1,c2,c3].drop 0).take (Tryz.prog.cellsOf 3)):=hf 0 _ rfl
      rw [show Tryz.prog.cellsOf 3 = 1 from by kernel_rfl] at q
      exact q
    have g1:Cells Tryz.prog W 128 [c1]:=by
      have q:Cells Tryz.prog W 128 (([c0,c1,c2,c3].drop 1).take (Tryz.prog.cellsOf 128)):=hf 1 _ rfl
      rw [show Tryz.prog.cellsOf 128 = 1 from by kernel_rfl] at q
      exact q
    have g2:Cells Tryz.prog W 3 [c2]:=by
      have q:Cells Tryz.prog W 3 (([c0,c1,c2,c3].drop 2).take (Tryz.prog.cellsOf 3)):=hf 2 _ rfl
      rw [show Tryz.prog.cellsOf 3 = 1 from by kernel_rfl] at q
      exact q
    have g3:Cells Tryz.prog W 3 [c3]:=by
      have q:Cells Tryz.prog W 3 (([c0,c1,c2,c3].drop 3).take (Tryz.prog.cellsOf 3)):=hf 3 _ rfl
      rw [show Tryz.prog.cellsOf 3 = 1 from by kernel_rfl] at q
      exact q
    obtain ⟨x0,e0,w0⟩:=g0.int_ Tryz.underlying3
    injection e0 with e0 _
    subst e0
    obtain ⟨x1,p1,w1,v1⟩:=rd_of_slice (enc:=encPiece) (wf:=wfPiece) (size:=2) (bytes:=32) Tryz.underlying128 (by kernel_rfl) (by kernel_rfl) (by decide) (fun es h=>rPiece_of_cells es h) g1
    obtain ⟨x2,e2,w2⟩:=g2.int_ Tryz.underlying3
    injection e2 with e2 _
    subst e2
    obtain ⟨x3,e3,w3⟩:=g3.int_ Tryz.underlying3
    injection e3 with e3 _
    subst e3
    exact ⟨⟨x0,x1,x2,x3⟩,rdc (.lit _ rfl) (rdc (p1) (rdc (.lit _ rfl) (rdc (.lit _ rfl) (rd0)))),⟨i64_of_wf w0,w1,v1,i64_of_wf w2,i64_of_wf w3⟩⟩
def RSender (S:Nat→Prop) (w:World) (cs:List Value) (x:DSender):Prop:=RdC S w (encSender x) cs∧wfSender x
set_option maxRecDepth 100000 in
theorem rSender_of_cells {W:World} (cs:List Value) (h:Cells Tryz.prog W 132 cs):∃ x,RSender (fun b=>b<W.heap.size) W cs x:=by
  obtain ⟨hl,hf⟩:=h.struct_ Tryz.underlying132
  rw [show Tryz.prog.cellsOf 132 = 8 from by kernel_rfl] at hl
  match cs,hl,hf with
  | [c0,c1,c2,c3,c4,c5,c6,c7],_,hf=>
    have g0:Cells Tryz.prog W 29 [c0]:=by
      have q:Cells Tryz.prog W 29 (([c0,c1,c2,c3,c4,c5,c6,c7].drop 0).take (Tryz.prog.cellsOf 29)):=hf 0 _ rfl
      rw [show Tryz.prog.cellsOf 29 = 1 from by kernel_rfl] at q
      exact q
    have g1:Cells Tryz.prog W 4 [c1]:=by
      have q:Cells Tryz.prog W 4 (([c0,c1,c2,c3,c4,c5,c6,c7].drop 1).take (Tryz.prog.cellsOf 4)):=hf 1 _ rfl
      rw [show Tryz.prog.cellsOf 4 = 1 from by kernel_rfl] at q
      exact q
    have g2:Cells Tryz.prog W 3 [c2]:=by
      have q:Cells Tryz.prog W 3 (([c0,c1,c2,c3,c4,c5,c6,c7].drop 2).take (Tryz.prog.cellsOf 3)):=hf 2 _ rfl
      rw [show Tryz.prog.cellsOf 3 = 1 from by kernel_rfl] at q
      exact q
    have g3:Cells Tryz.prog W 3 [c3]:=by
      have q:Cells Tryz.prog W 3 (([c0,c1,c2,c3,c4,c5,c6,c7].drop 3).take (Tryz.prog.cellsOf 3)):=hf 3 _ rfl
      rw [show Tryz.prog.cellsOf 3 = 1 from by kernel_rfl] at q
      exact q
    have g4:Cells Tryz.prog W 40 [c4]:=by
      have q:Cells Tryz.prog W 40 (([c0,c1,c2,c3,c4,c5,c6,c7].drop 4).take (Tryz.prog.cellsOf 40)):=hf 4 _ rfl
      rw [show Tryz.prog.cellsOf 40 = 1 from by kernel_rfl] at q
      exact q
    have g5:Cells Tryz.prog W 40 [c5]:=by
      have q:Cells Tryz.prog W 40 (([c0,c1,c2,c3,c4,c5,c6,c7].drop 5).take (Tryz.prog.cellsOf 40)):=hf 5 _ rfl
      rw [show Tryz.prog.cellsOf 40 = 1 from by kernel_rfl] at q
      exact q
    have g6:Cells Tryz.prog W 4 [c6]:=by
      have q:Cells Tryz.prog W 4 (([c0,c1,c2,c3,c4,c5,c6,c7].drop 6).take (Tryz.prog.cellsOf 4)):=hf 6 _ rfl
      rw [show Tryz.prog.cellsOf 4 = 1 from by kernel_rfl] at q
      exact q
    have g7:Cells Tryz.prog W 4 [c7]:=by
      have q:Cells Tryz.prog W 4 (([c0,c1,c2,c3,c4,c5,c6,c7].drop 7).take (Tryz.prog.cellsOf 4)):=hf 7 _ rfl
      rw [show Tryz.prog.cellsOf 4 = 1 from by kernel_rfl] at q
      exact q
    obtain ⟨x0,p0,w0,v0⟩:=rd_of_slice (enc:=encB) (wf:=fun _=>True) (size:=1) (bytes:=1) Tryz.underlying29 (by kernel_rfl) (by kernel_rfl) (by decide) (fun es h=>rdB_of_cells Tryz.underlying5 es h) g0
    obtain ⟨x1,e1⟩:=g1.bool_ Tryz.underlying4
    injection e1 with e1 _
    subst e1
    obtain ⟨x2,e2,w2⟩:=g2.int_ Tryz.underlying3
    injection e2 with e2 _
    subst e2
    obtain ⟨x3,e3,w3⟩:=g3.int_ Tryz.underlying3
    injection e3 with e3 _
    subst e3
    obtain ⟨x4,p4,w4,v4⟩:=rd_of_slice (enc:=encRange) (wf:=wfRange) (size:=2) (bytes:=16) Tryz.underlying40 (by kernel_rfl) (by kernel_rfl) (by decide) (fun es h=>rRange_of_cells es h) g4
    obtain ⟨x5,p5,w5,v5⟩:=rd_of_slice (enc:=encRange) (wf:=wfRange) (size:=2) (bytes:=16) Tryz.underlying40 (by kernel_rfl) (by kernel_rfl) (by decide) (fun es h=>rRange_of_cells es h) g5
    obtain ⟨x6,e6⟩:=g6.bool_ Tryz.underlying4
    injection e6 with e6 _
    subst e6
    obtain ⟨x7,e7⟩:=g7.bool_ Tryz.underlying4
    injection e7 with e7 _
    subst e7
    exact ⟨⟨x0,x1,x2,x3,x4,x5,x6,x7⟩,rdc (p0) (rdc (.lit _ rfl) (rdc (.lit _ rfl) (rdc (.lit _ rfl) (rdc (p4) (rdc (p5) (rdc (.lit _ rfl) (rdc (.lit _ rfl) (rd0)))))))),⟨w0,i64_of_wf w2,i64_of_wf w3,w4,v4,w5,v5⟩⟩
def RFrame (S:Nat→Prop) (w:World) (cs:List Value) (x:DFrame):Prop:=RdC S w (encFrame x) cs∧wfFrame x
set_option maxRecDepth 100000 in
theorem rFrame_of_cells {W:World} (cs:List Value) (h:Cells Tryz.prog W 111 cs):∃ x,RFrame (fun b=>b<W.heap.size) W cs x:=by
  obtain ⟨hl,hf⟩:=h.struct_ Tryz.underlying111
  rw [show Tryz.prog.cellsOf 111 = 7 from by kernel_rfl] at hl
  match cs,hl,hf with
  | [c0,c1,c2,c3,c4,c5,c6],_,hf=>
    have g0:Cells Tryz.prog W 3 [c0]:=by
      have q:Cells Tryz.prog W 3 (([c0,c1,c2,c3,c4,c5,c6].drop 0).take (Tryz.prog.cellsOf 3)):=hf 0 _ rfl
      rw [show Tryz.prog.cellsOf 3 = 1 from by kernel_rfl] at q
      exact q
    have g1:Cells Tryz.prog W 3 [c1]:=by
      have q:Cells Tryz.prog W 3 (([c0,c1,c2,c3,c4,c5,c6].drop 1).take (Tryz.prog.cellsOf 3)):=hf 1 _ rfl
      rw [show Tryz.prog.cellsOf 3 = 1 from by kernel_rfl] at q
      exact q
    have g2:Cells Tryz.prog W 3 [c2]:=by
      have q:Cells Tryz.prog W 3 (([c0,c1,c2,c3,c4,c5,c6].drop 2).take (Tryz.prog.cellsOf 3)):=hf 2 _ rfl
      rw [show Tryz.prog.cellsOf 3 = 1 from by kernel_rfl] at q
      exact q
    have g3:Cells Tryz.prog W 4 [c3]:=by
      have q:Cells Tryz.prog W 4 (([c0,c1,c2,c3,c4,c5,c6].drop 3).take (Tryz.prog.cellsOf 4)):=hf 3 _ rfl
      rw [show Tryz.prog.cellsOf 4 = 1 from by kernel_rfl] at q
      exact q
    have g4:Cells Tryz.prog W 3 [c4]:=by
      have q:Cells Tryz.prog W 3 (([c0,c1,c2,c3,c4,c5,c6].drop 4).take (Tryz.prog.cellsOf 3)):=hf 4 _ rfl
      rw [show Tryz.prog.cellsOf 3 = 1 from by kernel_rfl] at q
      exact q
    have g5:Cells Tryz.prog W 40 [c5]:=by
      have q:Cells Tryz.prog W 40 (([c0,c1,c2,c3,c4,c5,c6].drop 5).take (Tryz.prog.cellsOf 40)):=hf 5 _ rfl
      rw [show Tryz.prog.cellsOf 40 = 1 from by kernel_rfl] at q
      exact q
    have g6:Cells Tryz.prog W 29 [c6]:=by
      have q:Cells Tryz.prog W 29 (([c0,c1,c2,c3,c4,c5,c6].drop 6).take (Tryz.prog.cellsOf 29)):=hf 6 _ rfl
      rw [show Tryz.prog.cellsOf 29 = 1 from by kernel_rfl] at q
      exact q
    obtain ⟨x0,e0,w0⟩:=g0.int_ Tryz.underlying3
    injection e0 with e0 _
    subst e0
    obtain ⟨x1,e1,w1⟩:=g1.int_ Tryz.underlying3
    injection e1 with e1 _
    subst e1
    obtain ⟨x2,e2,w2⟩:=g2.int_ Tryz.underlying3
    injection e2 with e2 _
    subst e2
    obtain ⟨x3,e3⟩:=g3.bool_ Tryz.underlying4
    injection e3 with e3 _
    subst e3
    obtain ⟨x4,e4,w4⟩:=g4.int_ Tryz.underlying3
    injection e4 with e4 _
    subst e4
    obtain ⟨x5,p5,w5,v5⟩:=rd_of_slice (enc:=encRange) (wf:=wfRange) (size:=2) (bytes:=16) Tryz.underlying40 (by kernel_rfl) (by kernel_rfl) (by decide) (fun es h=>rRange_of_cells es h) g5
    obtain ⟨x6,p6,w6,v6⟩:=rd_of_slice (enc:=encB) (wf:=fun _=>True) (size:=1) (bytes:=1) Tryz.underlying29 (by kernel_rfl) (by kernel_rfl) (by decide) (fun es h=>rdB_of_cells Tryz.underlying5 es h) g6
    exact ⟨⟨x0,x1,x2,x3,x4,x5,x6⟩,rdc (.lit _ rfl) (rdc (.lit _ rfl) (rdc (.lit _ rfl) (rdc (.lit _ rfl) (rdc (.lit _ rfl) (rdc (p5) (rdc (p6) (rd0))))))),⟨i64_of_wf w0,i64_of_wf w1,i64_of_wf w2,i64_of_wf w4,w5,v5,w6⟩⟩
def RHead (S:Nat→Prop) (w:World) (cs:List Value) (x:DHead):Prop:=RdC S w (encHead x) cs∧wfHead x
def RParcel (S:Nat→Prop) (w:World) (cs:List Value) (x:DParcel):Prop:=RdC S w (encParcel x) cs∧wfParcel x
set_option maxRecDepth 100000 in
theorem rParcel_of_cells {W:World} (cs:List Value) (h:Cells Tryz.prog W 198 cs):∃ x,RParcel (fun b=>b<W.heap.size) W cs x:=by
  obtain ⟨hl,hf⟩:=h.struct_ Tryz.underlying198
  rw [show Tryz.prog.cellsOf 198 = 4 from by kernel_rfl] at hl
  match cs,hl,hf with
  | [c0,c1,c2,c3],_,hf=>
    have g0:Cells Tryz.prog W 3 [c0]:=by
      have q:Cells Tryz.prog W 3 (([c0,c1,c2,c3].drop 0).take (Tryz.prog.cellsOf 3)):=hf 0 _ rfl
      rw [show Tryz.prog.cellsOf 3 = 1 from by kernel_rfl] at q
      exact q
    have g1:Cells Tryz.prog W 3 [c1]:=by
      have q:Cells Tryz.prog W 3 (([c0,c1,c2,c3].drop 1).take (Tryz.prog.cellsOf 3)):=hf 1 _ rfl
      rw [show Tryz.prog.cellsOf 3 = 1 from by kernel_rfl] at q
      exact q
    have g2:Cells Tryz.prog W 3 [c2]:=by
      have q:Cells Tryz.prog W 3 (([c0,c1,c2,c3].drop 2).take (Tryz.prog.cellsOf 3)):=hf 2 _ rfl
      rw [show Tryz.prog.cellsOf 3 = 1 from by kernel_rfl] at q
      exact q
    have g3:Cells Tryz.prog W 49 [c3]:=by
      have q:Cells Tryz.prog W 49 (([c0,c1,c2,c3].drop 3).take (Tryz.prog.cellsOf 49)):=hf 3 _ rfl
      rw [show Tryz.prog.cellsOf 49 = 1 from by kernel_rfl] at q
      exact q
    obtain ⟨x0,e0,w0⟩:=g0.int_ Tryz.underlying3
    injection e0 with e0 _
    subst e0
    obtain ⟨x1,e1,w1⟩:=g1.int_ Tryz.underlying3
    injection e1 with e1 _
    subst e1
    obtain ⟨x2,e2,w2⟩:=g2.int_ Tryz.underlying3
    injection e2 with e2 _
    subst e2
    obtain ⟨x3,p3,w3,v3⟩:=rd_of_slice (enc:=encFrame) (wf:=wfFrame) (size:=7) (bytes:=88) Tryz.underlying49 (by kernel_rfl) (by kernel_rfl) (by decide) (fun es h=>rFrame_of_cells es h) g3
    exact ⟨⟨x0,x1,x2,x3⟩,rdc (.lit _ rfl) (rdc (.lit _ rfl) (rdc (.lit _ rfl) (rdc (p3) (rd0)))),⟨i64_of_wf w0,i64_of_wf w1,i64_of_wf w2,w3,v3⟩⟩
def RSpace (S:Nat→Prop) (w:World) (cs:List Value) (x:DSpace):Prop:=RdC S w (encSpace x) cs∧wfSpace x
set_option maxRecDepth 100000 in
theorem rSpace_of_cells {W:World} (cs:List Value) (h:Cells Tryz.prog W 43 cs):∃ x,RSpace (fun b=>b<W.heap.size) W cs x:=by
  obtain ⟨hl,hf⟩:=h.struct_ Tryz.underlying43
  rw [show Tryz.prog.cellsOf 43 = 5 from by kernel_rfl] at hl
  match cs,hl,hf with
  | [c0,c1,c2,c3,c4],_,hf=>
    have g0:Cells Tryz.prog W 3 [c0]:=by
      have q:Cells Tryz.prog W 3 (([c0,c1,c2,c3,c4].drop 0).take (Tryz.prog.cellsOf 3)):=hf 0 _ rfl
      rw [show Tryz.prog.cellsOf 3 = 1 from by kernel_rfl] at q
      exact q
    have g1:Cells Tryz.prog W 39 [c1]:=by
      have q:Cells Tryz.prog W 39 (([c0,c1,c2,c3,c4].drop 1).take (Tryz.prog.cellsOf 39)):=hf 1 _ rfl
      rw [show Tryz.prog.cellsOf 39 = 1 from by kernel_rfl] at q
      exact q
    have g2:Cells Tryz.prog W 3 [c2]:=by
      have q:Cells Tryz.prog W 3 (([c0,c1,c2,c3,c4].drop 2).take (Tryz.prog.cellsOf 3)):=hf 2 _ rfl
      rw [show Tryz.prog.cellsOf 3 = 1 from by kernel_rfl] at q
      exact q
    have g3:Cells Tryz.prog W 40 [c3]:=by
      have q:Cells Tryz.prog W 40 (([c0,c1,c2,c3,c4].drop 3).take (Tryz.prog.cellsOf 40)):=hf 3 _ rfl
      rw [show Tryz.prog.cellsOf 40 = 1 from by kernel_rfl] at q
      exact q
    have g4:Cells Tryz.prog W 41 [c4]:=by
      have q:Cells Tryz.prog W 41 (([c0,c1,c2,c3,c4].drop 4).take (Tryz.prog.cellsOf 41)):=hf 4 _ rfl
      rw [show Tryz.prog.cellsOf 41 = 1 from by kernel_rfl] at q
      exact q
    obtain ⟨x0,e0,w0⟩:=g0.int_ Tryz.underlying3
    injection e0 with e0 _
    subst e0
    obtain ⟨x1,p1,w1,v1⟩:=rd_of_slice (enc:=encParcel) (wf:=wfParcel) (size:=4) (bytes:=48) Tryz.underlying39 (by kernel_rfl) (by kernel_rfl) (by decide) (fun es h=>rParcel_of_cells es h) g1
    obtain ⟨x2,e2,w2⟩:=g2.int_ Tryz.underlying3
    injection e2 with e2 _
    subst e2
    obtain ⟨x3,p3,w3,v3⟩:=rd_of_slice (enc:=encRange) (wf:=wfRange) (size:=2) (bytes:=16) Tryz.underlying40 (by kernel_rfl) (by kernel_rfl) (by decide) (fun es h=>rRange_of_cells es h) g3
    obtain ⟨x4,p4,w4,v4⟩:=rd_of_slice (enc:=encI) (wf:=I64) (size:=1) (bytes:=8) Tryz.underlying41 (by kernel_rfl) (by kernel_rfl) (by decide) (fun es h=>rdI_of_cells Tryz.underlying3 es h) g4
    exact ⟨⟨x0,x1,x2,x3,x4⟩,rdc (.lit _ rfl) (rdc (p1) (rdc (.lit _ rfl) (rdc (p3) (rdc (p4) (rd0))))),⟨i64_of_wf w0,w1,v1,i64_of_wf w2,w3,v3,w4,v4⟩⟩
def RLane (S:Nat→Prop) (w:World) (cs:List Value) (x:DLane):Prop:=RdC S w (encLane x) cs∧wfLane x
set_option maxRecDepth 100000 in
theorem rLane_of_cells {W:World} (cs:List Value) (h:Cells Tryz.prog W 134 cs):∃ x,RLane (fun b=>b<W.heap.size) W cs x:=by
  obtain ⟨hl,hf⟩:=h.struct_ Tryz.underlying134
  rw [show Tryz.prog.cellsOf 134 = 16 from by kernel_rfl] at hl
  match cs,hl,hf with
  | [c0,c1,c2,c3,c4,c5,c6,c7,c8,c9,c10,c11,c12,c13,c14,c15],_,hf=>
    have g0:Cells Tryz.prog W 3 [c0]:=by
      have q:Cells Tryz.prog W 3 (([c0,c1,c2,c3,c4,c5,c6,c7,c8,c9,c10,c11,c12,c13,c14,c15].drop 0).take (Tryz.prog.cellsOf 3)):=hf 0 _ rfl
      rw [show Tryz.prog.cellsOf 3 = 1 from by kernel_rfl] at q
      exact q
    have g1:Cells Tryz.prog W 130 [c1,c2,c3,c4]:=by
      have q:Cells Tryz.prog W 130 (([c0,c1,c2,c3,c4,c5,c6,c7,c8,c9,c10,c11,c12,c13,c14,c15].drop 1).take (Tryz.prog.cellsOf 130)):=hf 1 _ rfl
      rw [show Tryz.prog.cellsOf 130 = 4 from by kernel_rfl] at q
      exact q
    have g2:Cells Tryz.prog W 29 [c5]:=by
      have q:Cells Tryz.prog W 29 (([c0,c1,c2,c3,c4,c5,c6,c7,c8,c9,c10,c11,c12,c13,c14,c15].drop 5).take (Tryz.prog.cellsOf 29)):=hf 2 _ rfl
      rw [show Tryz.prog.cellsOf 29 = 1 from by kernel_rfl] at q
      exact q
    have g3:Cells Tryz.prog W 4 [c6]:=by
      have q:Cells Tryz.prog W 4 (([c0,c1,c2,c3,c4,c5,c6,c7,c8,c9,c10,c11,c12,c13,c14,c15].drop 6).take (Tryz.prog.cellsOf 4)):=hf 3 _ rfl
      rw [show Tryz.prog.cellsOf 4 = 1 from by kernel_rfl] at q
      exact q
    have g4:Cells Tryz.prog W 4 [c7]:=by
      have q:Cells Tryz.prog W 4 (([c0,c1,c2,c3,c4,c5,c6,c7,c8,c9,c10,c11,c12,c13,c14,c15].drop 7).take (Tryz.prog.cellsOf 4)):=hf 4 _ rfl
      rw [show Tryz.prog.cellsOf 4 = 1 from by kernel_rfl] at q
      exact q
    have g5:Cells Tryz.prog W 132 [c8,c9,c10,c11,c12,c13,c14,c15]:=by
      have q:Cells Tryz.prog W 132 (([c0,c1,c2,c3,c4,c5,c6,c7,c8,c9,c10,c11,c12,c13,c14,c15].drop 8).take (Tryz.prog.cellsOf 132)):=hf 5 _ rfl
      rw [show Tryz.prog.cellsOf 132 = 8 from by kernel_rfl] at q
      exact q
    obtain ⟨x0,e0,w0⟩:=g0.int_ Tryz.underlying3
    injection e0 with e0 _
    subst e0
    obtain ⟨x1,⟨l1,p1⟩,w1⟩:=rGather_of_cells _ g1
    obtain ⟨x2,p2,w2,v2⟩:=rd_of_slice (enc:=encB) (wf:=fun _=>True) (size:=1) (bytes:=1) Tryz.underlying29 (by kernel_rfl) (by kernel_rfl) (by decide) (fun es h=>rdB_of_cells Tryz.underlying5 es h) g2
    obtain ⟨x3,e3⟩:=g3.bool_ Tryz.underlying4
    injection e3 with e3 _
    subst e3
    obtain ⟨x4,e4⟩:=g4.bool_ Tryz.underlying4
    injection e4 with e4 _
    subst e4
    obtain ⟨x5,⟨l5,p5⟩,w5⟩:=rSender_of_cells _ g5
    exact ⟨⟨x0,x1,x2,x3,x4,x5⟩,rdc (.lit _ rfl) (rdc (p1 0 (by show 0<4;decide)) (rdc (p1 1 (by show 1<4;decide)) (rdc (p1 2 (by show 2<4;decide)) (rdc (p1 3 (by show 3<4;decide)) (rdc (p2) (rdc (.lit _ rfl) (rdc (.lit _ rfl) (rdc (p5 0 (by show 0<8;decide)) (rdc (p5 1 (by show 1<8;decide)) (rdc (p5 2 (by show 2<8;decide)) (rdc (p5 3 (by show 3<8;decide)) (rdc (p5 4 (by show 4<8;decide)) (rdc (p5 5 (by show 5<8;decide)) (rdc (p5 6 (by show 6<8;decide)) (rdc (p5 7 (by show 7<8;decide)) (rd0)))))))))))))))),⟨i64_of_wf w0,w1,w2,w5⟩⟩
def RConn (S:Nat→Prop) (w:World) (cs:List Value) (x:DConn):Prop:=RdC S w (encConn x) cs∧wfConn x
set_option maxRecDepth 100000 in
theorem rConn_of_cells {W:World} (cs:List Value) (h:Cells Tryz.prog W 51 cs):∃ x,RConn (fun b=>b<W.heap.size) W cs x:=by
  obtain ⟨hl,hf⟩:=h.struct_ Tryz.underlying51
  rw [show Tryz.prog.cellsOf 51 = 24 from by kernel_rfl] at hl
  match cs,hl,hf with
  | [c0,c1,c2,c3,c4,c5,c6,c7,c8,c9,c10,c11,c12,c13,c14,c15,c16,c17,c18,c19,c20,c21,c22,c23],_,hf=>
    have g0:Cells Tryz.prog W 4 [c0]:=by
      have q:Cells Tryz.prog W 4 (([c0,c1,c2,c3,c4,c5,c6,c7,c8,c9,c10,c11,c12,c13,c14,c15,c16,c17,c18,c19,c20,c21,c22,c23].drop 0).take (Tryz.prog.cellsOf 4)):=hf 0 _ rfl
      rw [show Tryz.prog.cellsOf 4 = 1 from by kernel_rfl] at q
      exact q
    have g1:Cells Tryz.prog W 43 [c1,c2,c3,c4,c5]:=by
      have q:Cells Tryz.prog W 43 (([c0,c1,c2,c3,c4,c5,c6,c7,c8,c9,c10,c11,c12,c13,c14,c15,c16,c17,c18,c19,c20,c21,c22,c23].drop 1).take (Tryz.prog.cellsOf 43)):=hf 1 _ rfl
      rw [show Tryz.prog.cellsOf 43 = 5 from by kernel_rfl] at q
      exact q
    have g2:Cells Tryz.prog W 45 [c6,c7,c8,c9]:=by
      have q:Cells Tryz.prog W 45 (([c0,c1,c2,c3,c4,c5,c6,c7,c8,c9,c10,c11,c12,c13,c14,c15,c16,c17,c18,c19,c20,c21,c22,c23].drop 6).take (Tryz.prog.cellsOf 45)):=hf 2 _ rfl
      rw [show Tryz.prog.cellsOf 45 = 4 from by kernel_rfl] at q
      exact q
    have g3:Cells Tryz.prog W 47 [c10,c11]:=by
      have q:Cells Tryz.prog W 47 (([c0,c1,c2,c3,c4,c5,c6,c7,c8,c9,c10,c11,c12,c13,c14,c15,c16,c17,c18,c19,c20,c21,c22,c23].drop 10).take (Tryz.prog.cellsOf 47)):=hf 3 _ rfl
      rw [show Tryz.prog.cellsOf 47 = 2 from by kernel_rfl] at q
      exact q
    have g4:Cells Tryz.prog W 47 [c12,c13]:=by
      have q:Cells Tryz.prog W 47 (([c0,c1,c2,c3,c4,c5,c6,c7,c8,c9,c10,c11,c12,c13,c14,c15,c16,c17,c18,c19,c20,c21,c22,c23].drop 12).take (Tryz.prog.cellsOf 47)):=hf 4 _ rfl
      rw [show Tryz.prog.cellsOf 47 = 2 from by kernel_rfl] at q
      exact q
    have g5:Cells Tryz.prog W 3 [c14]:=by
      have q:Cells Tryz.prog W 3 (([c0,c1,c2,c3,c4,c5,c6,c7,c8,c9,c10,c11,c12,c13,c14,c15,c16,c17,c18,c19,c20,c21,c22,c23].drop 14).take (Tryz.prog.cellsOf 3)):=hf 5 _ rfl
      rw [show Tryz.prog.cellsOf 3 = 1 from by kernel_rfl] at q
      exact q
    have g6:Cells Tryz.prog W 3 [c15]:=by
      have q:Cells Tryz.prog W 3 (([c0,c1,c2,c3,c4,c5,c6,c7,c8,c9,c10,c11,c12,c13,c14,c15,c16,c17,c18,c19,c20,c21,c22,c23].drop 15).take (Tryz.prog.cellsOf 3)):=hf 6 _ rfl
      rw [show Tryz.prog.cellsOf 3 = 1 from by kernel_rfl] at q
      exact q
    have g7:Cells Tryz.prog W 3 [c16]:=by
      have q:Cells Tryz.prog W 3 (([c0,c1,c2,c3,c4,c5,c6,c7,c8,c9,c10,c11,c12,c13,c14,c15,c16,c17,c18,c19,c20,c21,c22,c23].drop 16).take (Tryz.prog.cellsOf 3)):=hf 7 _ rfl
      rw [show Tryz.prog.cellsOf 3 = 1 from by kernel_rfl] at q
      exact q
    have g8:Cells Tryz.prog W 48 [c17]:=by
      have q:Cells Tryz.prog W 48 (([c0,c1,c2,c3,c4,c5,c6,c7,c8,c9,c10,c11,c12,c13,c14,c15,c16,c17,c18,c19,c20,c21,c22,c23].drop 17).take (Tryz.prog.cellsOf 48)):=hf 8 _ rfl
      rw [show Tryz.prog.cellsOf 48 = 1 from by kernel_rfl] at q
      exact q
    have g9:Cells Tryz.prog W 4 [c18]:=by
      have q:Cells Tryz.prog W 4 (([c0,c1,c2,c3,c4,c5,c6,c7,c8,c9,c10,c11,c12,c13,c14,c15,c16,c17,c18,c19,c20,c21,c22,c23].drop 18).take (Tryz.prog.cellsOf 4)):=hf 9 _ rfl
      rw [show Tryz.prog.cellsOf 4 = 1 from by kernel_rfl] at q
      exact q
    have g10:Cells Tryz.prog W 49 [c19]:=by
      have q:Cells Tryz.prog W 49 (([c0,c1,c2,c3,c4,c5,c6,c7,c8,c9,c10,c11,c12,c13,c14,c15,c16,c17,c18,c19,c20,c21,c22,c23].drop 19).take (Tryz.prog.cellsOf 49)):=hf 10 _ rfl
      rw [show Tryz.prog.cellsOf 49 = 1 from by kernel_rfl] at q
      exact q
    have g11:Cells Tryz.prog W 3 [c20]:=by
      have q:Cells Tryz.prog W 3 (([c0,c1,c2,c3,c4,c5,c6,c7,c8,c9,c10,c11,c12,c13,c14,c15,c16,c17,c18,c19,c20,c21,c22,c23].drop 20).take (Tryz.prog.cellsOf 3)):=hf 11 _ rfl
      rw [show Tryz.prog.cellsOf 3 = 1 from by kernel_rfl] at q
      exact q
    have g12:Cells Tryz.prog W 3 [c21]:=by
      have q:Cells Tryz.prog W 3 (([c0,c1,c2,c3,c4,c5,c6,c7,c8,c9,c10,c11,c12,c13,c14,c15,c16,c17,c18,c19,c20,c21,c22,c23].drop 21).take (Tryz.prog.cellsOf 3)):=hf 12 _ rfl
      rw [show Tryz.prog.cellsOf 3 = 1 from by kernel_rfl] at q
      exact q
    have g13:Cells Tryz.prog W 4 [c22]:=by
      have q:Cells Tryz.prog W 4 (([c0,c1,c2,c3,c4,c5,c6,c7,c8,c9,c10,c11,c12,c13,c14,c15,c16,c17,c18,c19,c20,c21,c22,c23].drop 22).take (Tryz.prog.cellsOf 4)):=hf 13 _ rfl
      rw [show Tryz.prog.cellsOf 4 = 1 from by kernel_rfl] at q
      exact q
    have g14:Cells Tryz.prog W 3 [c23]:=by
      have q:Cells Tryz.prog W 3 (([c0,c1,c2,c3,c4,c5,c6,c7,c8,c9,c10,c11,c12,c13,c14,c15,c16,c17,c18,c19,c20,c21,c22,c23].drop 23).take (Tryz.prog.cellsOf 3)):=hf 14 _ rfl
      rw [show Tryz.prog.cellsOf 3 = 1 from by kernel_rfl] at q
      exact q
    obtain ⟨x0,e0⟩:=g0.bool_ Tryz.underlying4
    injection e0 with e0 _
    subst e0
    obtain ⟨x1,⟨l1,p1⟩,w1⟩:=rSpace_of_cells _ g1
    obtain ⟨x2,⟨l2,p2⟩,w2⟩:=rPace_of_cells _ g2
    obtain ⟨x3,⟨l3,p3⟩,w3⟩:=rFlow_of_cells _ g3
    obtain ⟨x4,⟨l4,p4⟩,w4⟩:=rFlow_of_cells _ g4
    obtain ⟨x5,e5,w5⟩:=g5.int_ Tryz.underlying3
    injection e5 with e5 _
    subst e5
    obtain ⟨x6,e6,w6⟩:=g6.int_ Tryz.underlying3
    injection e6 with e6 _
    subst e6
    obtain ⟨x7,e7,w7⟩:=g7.int_ Tryz.underlying3
    injection e7 with e7 _
    subst e7
    obtain ⟨x8,p8,w8,v8⟩:=rd_of_slice (enc:=encLane) (wf:=wfLane) (size:=16) (bytes:=192) Tryz.underlying48 (by kernel_rfl) (by kernel_rfl) (by decide) (fun es h=>rLane_of_cells es h) g8
    obtain ⟨x9,e9⟩:=g9.bool_ Tryz.underlying4
    injection e9 with e9 _
    subst e9
    obtain ⟨x10,p10,w10,v10⟩:=rd_of_slice (enc:=encFrame) (wf:=wfFrame) (size:=7) (bytes:=88) Tryz.underlying49 (by kernel_rfl) (by kernel_rfl) (by decide) (fun es h=>rFrame_of_cells es h) g10
    obtain ⟨x11,e11,w11⟩:=g11.int_ Tryz.underlying3
    injection e11 with e11 _
    subst e11
    obtain ⟨x12,e12,w12⟩:=g12.int_ Tryz.underlying3
    injection e12 with e12 _
    subst e12
    obtain ⟨x13,e13⟩:=g13.bool_ Tryz.underlying4
    injection e13 with e13 _
    subst e13
    obtain ⟨x14,e14,w14⟩:=g14.int_ Tryz.underlying3
    injection e14 with e14 _
    subst e14
    exact ⟨⟨x0,x1,x2,x3,x4,x5,x6,x7,x8,x9,x10,x11,x12,x13,x14⟩,rdc (.lit _ rfl) (rdc (p1 0 (by show 0<5;decide)) (rdc (p1 1 (by show 1<5;decide)) (rdc (p1 2 (by show 2<5;decide)) (rdc (p1 3 (by show 3<5;decide)) (rdc (p1 4 (by show 4<5;decide)) (rdc (p2 0 (by show 0<4;decide)) (rdc (p2 1 (by show 1<4;decide)) (rdc (p2 2 (by show 2<4;decide)) (rdc (p2 3 (by show 3<4;decide)) (rdc (p3 0 (by show 0<2;decide)) (rdc (p3 1 (by show 1<2;decide)) (rdc (p4 0 (by show 0<2;decide)) (rdc (p4 1 (by show 1<2;decide)) (rdc (.lit _ rfl) (rdc (.lit _ rfl) (rdc (.lit _ rfl) (rdc (p8) (rdc (.lit _ rfl) (rdc (p10) (rdc (.lit _ rfl) (rdc (.lit _ rfl) (rdc (.lit _ rfl) (rdc (.lit _ rfl) (rd0)))))))))))))))))))))))),⟨w1,w2,w3,w4,i64_of_wf w5,i64_of_wf w6,i64_of_wf w7,w8,v8,w10,v10,i64_of_wf w11,i64_of_wf w12,i64_of_wf w14⟩⟩
def RNote (S:Nat→Prop) (w:World) (cs:List Value) (x:DNote):Prop:=RdC S w (encNote x) cs∧wfNote x
set_option maxRecDepth 100000 in
theorem rNote_of_cells {W:World} (cs:List Value) (h:Cells Tryz.prog W 90 cs):∃ x,RNote (fun b=>b<W.heap.size) W cs x:=by
  obtain ⟨hl,hf⟩:=h.struct_ Tryz.underlying90
  rw [show Tryz.prog.cellsOf 90 = 29 from by kernel_rfl] at hl
  match cs,hl,hf with
  | [c0,c1,c2,c3,c4,c5,c6,c7,c8,c9,c10,c11,c12,c13,c14,c15,c16,c17,c18,c19,c20,c21,c22,c23,c24,c25,c26,c27,c28],_,hf=>
    have g0:Cells Tryz.prog W 3 [c0]:=by
      have q:Cells Tryz.prog W 3 (([c0,c1,c2,c3,c4,c5,c6,c7,c8,c9,c10,c11,c12,c13,c14,c15,c16,c17,c18,c19,c20,c21,c22,c23,c24,c25,c26,c27,c28].drop 0).take (Tryz.prog.cellsOf 3)):=hf 0 _ rfl
      rw [show Tryz.prog.cellsOf 3 = 1 from by kernel_rfl] at q
      exact q
    have g1:Cells Tryz.prog W 3 [c1]:=by
      have q:Cells Tryz.prog W 3 (([c0,c1,c2,c3,c4,c5,c6,c7,c8,c9,c10,c11,c12,c13,c14,c15,c16,c17,c18,c19,c20,c21,c22,c23,c24,c25,c26,c27,c28].drop 1).take (Tryz.prog.cellsOf 3)):=hf 1 _ rfl
      rw [show Tryz.prog.cellsOf 3 = 1 from by kernel_rfl] at q
      exact q
    have g2:Cells Tryz.prog W 3 [c2]:=by
      have q:Cells Tryz.prog W 3 (([c0,c1,c2,c3,c4,c5,c6,c7,c8,c9,c10,c11,c12,c13,c14,c15,c16,c17,c18,c19,c20,c21,c22,c23,c24,c25,c26,c27,c28].drop 2).take (Tryz.prog.cellsOf 3)):=hf 2 _ rfl
      rw [show Tryz.prog.cellsOf 3 = 1 from by kernel_rfl] at q
      exact q
    have g3:Cells Tryz.prog W 22 [c3]:=by
      have q:Cells Tryz.prog W 22 (([c0,c1,c2,c3,c4,c5,c6,c7,c8,c9,c10,c11,c12,c13,c14,c15,c16,c17,c18,c19,c20,c21,c22,c23,c24,c25,c26,c27,c28].drop 3).take (Tryz.prog.cellsOf 22)):=hf 3 _ rfl
      rw [show Tryz.prog.cellsOf 22 = 1 from by kernel_rfl] at q
      exact q
    have g4:Cells Tryz.prog W 4 [c4]:=by
      have q:Cells Tryz.prog W 4 (([c0,c1,c2,c3,c4,c5,c6,c7,c8,c9,c10,c11,c12,c13,c14,c15,c16,c17,c18,c19,c20,c21,c22,c23,c24,c25,c26,c27,c28].drop 4).take (Tryz.prog.cellsOf 4)):=hf 4 _ rfl
      rw [show Tryz.prog.cellsOf 4 = 1 from by kernel_rfl] at q
      exact q
    have g5:Cells Tryz.prog W 51 [c5,c6,c7,c8,c9,c10,c11,c12,c13,c14,c15,c16,c17,c18,c19,c20,c21,c22,c23,c24,c25,c26,c27,c28]:=by
      have q:Cells Tryz.prog W 51 (([c0,c1,c2,c3,c4,c5,c6,c7,c8,c9,c10,c11,c12,c13,c14,c15,c16,c17,c18,c19,c20,c21,c22,c23,c24,c25,c26,c27,c28].drop 5).take (Tryz.prog.cellsOf 51)):=hf 5 _ rfl
      rw [show Tryz.prog.cellsOf 51 = 24 from by kernel_rfl] at q
      exact q
    obtain ⟨x0,e0,w0⟩:=g0.int_ Tryz.underlying3
    injection e0 with e0 _
    subst e0
    obtain ⟨x1,e1,w1⟩:=g1.int_ Tryz.underlying3
    injection e1 with e1 _
    subst e1
    obtain ⟨x2,e2,w2⟩:=g2.int_ Tryz.underlying3
    injection e2 with e2 _
    subst e2
    obtain ⟨x3,e3,w3⟩:=g3.int_ Tryz.underlying22
    injection e3 with e3 _
    subst e3
    obtain ⟨x4,e4⟩:=g4.bool_ Tryz.underlying4
    injection e4 with e4 _
    subst e4
    obtain ⟨x5,⟨l5,p5⟩,w5⟩:=rConn_of_cells _ g5
    exact ⟨⟨x0,x1,x2,x3,x4,x5⟩,rdc (.lit _ rfl) (rdc (.lit _ rfl) (rdc (.lit _ rfl) (rdc (.lit _ rfl) (rdc (.lit _ rfl) (rdc (p5 0 (by show 0<24;decide)) (rdc (p5 1 (by show 1<24;decide)) (rdc (p5 2 (by show 2<24;decide)) (rdc (p5 3 (by show 3<24;decide)) (rdc (p5 4 (by show 4<24;decide)) (rdc (p5 5 (by show 5<24;decide)) (rdc (p5 6 (by show 6<24;decide)) (rdc (p5 7 (by show 7<24;decide)) (rdc (p5 8 (by show 8<24;decide)) (rdc (p5 9 (by show 9<24;decide)) (rdc (p5 10 (by show 10<24;decide)) (rdc (p5 11 (by show 11<24;decide)) (rdc (p5 12 (by show 12<24;decide)) (rdc (p5 13 (by show 13<24;decide)) (rdc (p5 14 (by show 14<24;decide)) (rdc (p5 15 (by show 15<24;decide)) (rdc (p5 16 (by show 16<24;decide)) (rdc (p5 17 (by show 17<24;decide)) (rdc (p5 18 (by show 18<24;decide)) (rdc (p5 19 (by show 19<24;decide)) (rdc (p5 20 (by show 20<24;decide)) (rdc (p5 21 (by show 21<24;decide)) (rdc (p5 22 (by show 22<24;decide)) (rdc (p5 23 (by show 23<24;decide)) (rd0))))))))))))))))))))))))))))),⟨i64_of_wf w0,i64_of_wf w1,i64_of_wf w2,u64_of_wf w3,w5⟩⟩
def RMail (S:Nat→Prop) (w:World) (cs:List Value) (x:DMail):Prop:=RdC S w (encMail x) cs∧wfMail x
def RClient (S:Nat→Prop) (w:World) (cs:List Value) (x:DClient):Prop:=RdC S w (encClient x) cs∧wfClient x
def RAct (S:Nat→Prop) (w:World) (cs:List Value) (x:DAct):Prop:=RdC S w (encAct x) cs∧wfAct x
def RLetter (S:Nat→Prop) (w:World) (cs:List Value) (x:DLetter):Prop:=RdC S w (encLetter x) cs∧wfLetter x
def RGate (S:Nat→Prop) (w:World) (cs:List Value) (x:DGate):Prop:=RdC S w (encGate x) cs∧wfGate x
set_option maxRecDepth 100000 in
theorem rGate_of_cells {W:World} (cs:List Value) (h:Cells Tryz.prog W 28 cs):∃ x,RGate (fun b=>b<W.heap.size) W cs x:=by
  obtain ⟨hl,hf⟩:=h.struct_ Tryz.underlying28
  rw [show Tryz.prog.cellsOf 28 = 18 from by kernel_rfl] at hl
  match cs,hl,hf with
  | [c0,c1,c2,c3,c4,c5,c6,c7,c8,c9,c10,c11,c12,c13,c14,c15,c16,c17],_,hf=>
    have g0:Cells Tryz.prog W 22 [c0]:=by
      have q:Cells Tryz.prog W 22 (([c0,c1,c2,c3,c4,c5,c6,c7,c8,c9,c10,c11,c12,c13,c14,c15,c16,c17].drop 0).take (Tryz.prog.cellsOf 22)):=hf 0 _ rfl
      rw [show Tryz.prog.cellsOf 22 = 1 from by kernel_rfl] at q
      exact q
    have g1:Cells Tryz.prog W 3 [c1]:=by
      have q:Cells Tryz.prog W 3 (([c0,c1,c2,c3,c4,c5,c6,c7,c8,c9,c10,c11,c12,c13,c14,c15,c16,c17].drop 1).take (Tryz.prog.cellsOf 3)):=hf 1 _ rfl
      rw [show Tryz.prog.cellsOf 3 = 1 from by kernel_rfl] at q
      exact q
    have g2:Cells Tryz.prog W 3 [c2]:=by
      have q:Cells Tryz.prog W 3 (([c0,c1,c2,c3,c4,c5,c6,c7,c8,c9,c10,c11,c12,c13,c14,c15,c16,c17].drop 2).take (Tryz.prog.cellsOf 3)):=hf 2 _ rfl
      rw [show Tryz.prog.cellsOf 3 = 1 from by kernel_rfl] at q
      exact q
    have g3:Cells Tryz.prog W 23 [c3]:=by
      have q:Cells Tryz.prog W 23 (([c0,c1,c2,c3,c4,c5,c6,c7,c8,c9,c10,c11,c12,c13,c14,c15,c16,c17].drop 3).take (Tryz.prog.cellsOf 23)):=hf 3 _ rfl
      rw [show Tryz.prog.cellsOf 23 = 1 from by kernel_rfl] at q
      exact q
    have ga:Cells Tryz.prog W 26 [c4,c5,c6,c7,c8,c9,c10,c11,c12,c13,c14,c15]:=by
      have q:Cells Tryz.prog W 26 (([c0,c1,c2,c3,c4,c5,c6,c7,c8,c9,c10,c11,c12,c13,c14,c15,c16,c17].drop 4).take (Tryz.prog.cellsOf 26)):=hf 4 _ rfl
      rw [show Tryz.prog.cellsOf 26 = 12 from by kernel_rfl] at q
      exact q
    have gb:=(ga.array_ Tryz.underlying26).2
    rw [show Tryz.prog.cellsOf 25 = 3 from by kernel_rfl] at gb
    have g4:Cells Tryz.prog W 25 [c4,c5,c6]:=gb 0 (by decide)
    have g5:Cells Tryz.prog W 25 [c7,c8,c9]:=gb 1 (by decide)
    have g6:Cells Tryz.prog W 25 [c10,c11,c12]:=gb 2 (by decide)
    have g7:Cells Tryz.prog W 25 [c13,c14,c15]:=gb 3 (by decide)
    have g8:Cells Tryz.prog W 4 [c16]:=by
      have q:Cells Tryz.prog W 4 (([c0,c1,c2,c3,c4,c5,c6,c7,c8,c9,c10,c11,c12,c13,c14,c15,c16,c17].drop 16).take (Tryz.prog.cellsOf 4)):=hf 5 _ rfl
      rw [show Tryz.prog.cellsOf 4 = 1 from by kernel_rfl] at q
      exact q
    have g9:Cells Tryz.prog W 3 [c17]:=by
      have q:Cells Tryz.prog W 3 (([c0,c1,c2,c3,c4,c5,c6,c7,c8,c9,c10,c11,c12,c13,c14,c15,c16,c17].drop 17).take (Tryz.prog.cellsOf 3)):=hf 6 _ rfl
      rw [show Tryz.prog.cellsOf 3 = 1 from by kernel_rfl] at q
      exact q
    obtain ⟨x0,e0,w0⟩:=g0.int_ Tryz.underlying22
    injection e0 with e0 _
    subst e0
    obtain ⟨x1,e1,w1⟩:=g1.int_ Tryz.underlying3
    injection e1 with e1 _
    subst e1
    obtain ⟨x2,e2,w2⟩:=g2.int_ Tryz.underlying3
    injection e2 with e2 _
    subst e2
    obtain ⟨x3,p3,w3,v3⟩:=rd_of_slice (enc:=encNote) (wf:=wfNote) (size:=29) (bytes:=312) Tryz.underlying23 (by kernel_rfl) (by kernel_rfl) (by decide) (fun es h=>rNote_of_cells es h) g3
    obtain ⟨x4,⟨l4,p4⟩,w4⟩:=rTally_of_cells _ g4
    obtain ⟨x5,⟨l5,p5⟩,w5⟩:=rTally_of_cells _ g5
    obtain ⟨x6,⟨l6,p6⟩,w6⟩:=rTally_of_cells _ g6
    obtain ⟨x7,⟨l7,p7⟩,w7⟩:=rTally_of_cells _ g7
    obtain ⟨x8,e8⟩:=g8.bool_ Tryz.underlying4
    injection e8 with e8 _
    subst e8
    obtain ⟨x9,e9,w9⟩:=g9.int_ Tryz.underlying3
    injection e9 with e9 _
    subst e9
    exact ⟨⟨x0,x1,x2,x3,x4,x5,x6,x7,x8,x9⟩,rdc (.lit _ rfl) (rdc (.lit _ rfl) (rdc (.lit _ rfl) (rdc (p3) (rdc (p4 0 (by show 0<3;decide)) (rdc (p4 1 (by show 1<3;decide)) (rdc (p4 2 (by show 2<3;decide)) (rdc (p5 0 (by show 0<3;decide)) (rdc (p5 1 (by show 1<3;decide)) (rdc (p5 2 (by show 2<3;decide)) (rdc (p6 0 (by show 0<3;decide)) (rdc (p6 1 (by show 1<3;decide)) (rdc (p6 2 (by show 2<3;decide)) (rdc (p7 0 (by show 0<3;decide)) (rdc (p7 1 (by show 1<3;decide)) (rdc (p7 2 (by show 2<3;decide)) (rdc (.lit _ rfl) (rdc (.lit _ rfl) (rd0)))))))))))))))))),⟨u64_of_wf w0,i64_of_wf w1,i64_of_wf w2,w3,v3,w4,w5,w6,w7,i64_of_wf w9⟩⟩
end Go.Proofs.YtendheafcbickaaGreat.U
