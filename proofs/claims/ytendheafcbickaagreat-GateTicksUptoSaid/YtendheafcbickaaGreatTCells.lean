
import Derived.Test.YtendheafcbickaaGreatTZip
import Derived.Test.YtendheafcbickaaGreatTMg47
import Derived.Test.YtendheafcbickaaGreatProg
set_option linter.unusedVariables false
set_option linter.unusedSimpArgs false
namespace Go.Proofs.YtendheafcbickaaGreat
open Go.ChangeShapes Go.WideShapes Go.ChangeAt Go.RowKit Go.Deep
def Ej (S:Nat->Prop) (w:World) (cs:List Value) (x:aQ):Prop:=eQ S w (aD x) cs/\fz x
set_option maxRecDepth 100000 in
theorem qu {W:World} (cs:List Value) (h:Cells Tryz.prog W 146 cs):∃ x,Ej (fun b=>b<W.heap.size) W cs x:=by
 obtain ⟨aq,hf⟩:=h.gV Tryz.underlying146
 rw[show Tryz.prog.cellsOf 146 = 2 from by kernel_rfl] at aq
 match cs,aq,hf with
 | [aS,aK],_,hf=>
  have g0:Cells Tryz.prog W 3 [aS]:=by
   have q:Cells Tryz.prog W 3 (([aS,aK].drop 0).take (Tryz.prog.cellsOf 3)):=hf 0 _ rfl
   rw[show Tryz.prog.cellsOf 3 = 1 from by kernel_rfl] at q
   exact q
  have g1:Cells Tryz.prog W 3 [aK]:=by
   have q:Cells Tryz.prog W 3 (([aS,aK].drop 1).take (Tryz.prog.cellsOf 3)):=hf 1 _ rfl
   rw[show Tryz.prog.cellsOf 3 = 1 from by kernel_rfl] at q
   exact q
  obtain ⟨dO,b8,w0⟩:=g0.cP Tryz.underlying3
  injection b8 with b8 _
  subst b8
  obtain ⟨ek,aH,cy⟩:=g1.cP Tryz.underlying3
  injection aH with aH _
  subst aH
  exact⟨⟨dO,ek⟩,aP (.lit _ rfl) (aP (.lit _ rfl) (gZ)),⟨db w0,db cy⟩⟩
def Ek (S:Nat->Prop) (w:World) (cs:List Value) (x:iB):Prop:=eQ S w (ue x) cs/\np x
set_option maxRecDepth 100000 in
theorem wY {W:World} (cs:List Value) (h:Cells Tryz.prog W 47 cs):∃ x,Ek (fun b=>b<W.heap.size) W cs x:=by
 obtain ⟨aq,hf⟩:=h.gV Tryz.underlying47
 rw[show Tryz.prog.cellsOf 47 = 2 from by kernel_rfl] at aq
 match cs,aq,hf with
 | [aS,aK],_,hf=>
  have g0:Cells Tryz.prog W 3 [aS]:=by
   have q:Cells Tryz.prog W 3 (([aS,aK].drop 0).take (Tryz.prog.cellsOf 3)):=hf 0 _ rfl
   rw[show Tryz.prog.cellsOf 3 = 1 from by kernel_rfl] at q
   exact q
  have g1:Cells Tryz.prog W 3 [aK]:=by
   have q:Cells Tryz.prog W 3 (([aS,aK].drop 1).take (Tryz.prog.cellsOf 3)):=hf 1 _ rfl
   rw[show Tryz.prog.cellsOf 3 = 1 from by kernel_rfl] at q
   exact q
  obtain ⟨dO,b8,w0⟩:=g0.cP Tryz.underlying3
  injection b8 with b8 _
  subst b8
  obtain ⟨ek,aH,cy⟩:=g1.cP Tryz.underlying3
  injection aH with aH _
  subst aH
  exact⟨⟨dO,ek⟩,aP (.lit _ rfl) (aP (.lit _ rfl) (gZ)),⟨db w0,db cy⟩⟩
def El (S:Nat->Prop) (w:World) (cs:List Value) (x:fM):Prop:=eQ S w (nr x) cs/\hE x
set_option maxRecDepth 100000 in
theorem Em {W:World} (cs:List Value) (h:Cells Tryz.prog W 45 cs):∃ x,El (fun b=>b<W.heap.size) W cs x:=by
 obtain ⟨aq,hf⟩:=h.gV Tryz.underlying45
 rw[show Tryz.prog.cellsOf 45 = 4 from by kernel_rfl] at aq
 match cs,aq,hf with
 | [aS,aK,aX,bo],_,hf=>
  have g0:Cells Tryz.prog W 3 [aS]:=by
   have q:Cells Tryz.prog W 3 (([aS,aK,aX,bo].drop 0).take (Tryz.prog.cellsOf 3)):=hf 0 _ rfl
   rw[show Tryz.prog.cellsOf 3 = 1 from by kernel_rfl] at q
   exact q
  have g1:Cells Tryz.prog W 3 [aK]:=by
   have q:Cells Tryz.prog W 3 (([aS,aK,aX,bo].drop 1).take (Tryz.prog.cellsOf 3)):=hf 1 _ rfl
   rw[show Tryz.prog.cellsOf 3 = 1 from by kernel_rfl] at q
   exact q
  have g2:Cells Tryz.prog W 3 [aX]:=by
   have q:Cells Tryz.prog W 3 (([aS,aK,aX,bo].drop 2).take (Tryz.prog.cellsOf 3)):=hf 2 _ rfl
   rw[show Tryz.prog.cellsOf 3 = 1 from by kernel_rfl] at q
   exact q
  have g3:Cells Tryz.prog W 3 [bo]:=by
   have q:Cells Tryz.prog W 3 (([aS,aK,aX,bo].drop 3).take (Tryz.prog.cellsOf 3)):=hf 3 _ rfl
   rw[show Tryz.prog.cellsOf 3 = 1 from by kernel_rfl] at q
   exact q
  obtain ⟨dO,b8,w0⟩:=g0.cP Tryz.underlying3
  injection b8 with b8 _
  subst b8
  obtain ⟨ek,aH,cy⟩:=g1.cP Tryz.underlying3
  injection aH with aH _
  subst aH
  obtain ⟨fv,aN,cR⟩:=g2.cP Tryz.underlying3
  injection aN with aN _
  subst aN
  obtain ⟨fi,bS,w3⟩:=g3.cP Tryz.underlying3
  injection bS with bS _
  subst bS
  exact⟨⟨dO,ek,fv,fi⟩,aP (.lit _ rfl) (aP (.lit _ rfl) (aP (.lit _ rfl) (aP (.lit _ rfl) (gZ)))),⟨db w0,db cy,db cR,db w3⟩⟩
def En (S:Nat->Prop) (w:World) (cs:List Value) (x:fR):Prop:=eQ S w (nt x) cs/\gL x
set_option maxRecDepth 100000 in
theorem wZ {W:World} (cs:List Value) (h:Cells Tryz.prog W 25 cs):∃ x,En (fun b=>b<W.heap.size) W cs x:=by
 obtain ⟨aq,hf⟩:=h.gV Tryz.underlying25
 rw[show Tryz.prog.cellsOf 25 = 3 from by kernel_rfl] at aq
 match cs,aq,hf with
 | [aS,aK,aX],_,hf=>
  have g0:Cells Tryz.prog W 4 [aS]:=by
   have q:Cells Tryz.prog W 4 (([aS,aK,aX].drop 0).take (Tryz.prog.cellsOf 4)):=hf 0 _ rfl
   rw[show Tryz.prog.cellsOf 4 = 1 from by kernel_rfl] at q
   exact q
  have g1:Cells Tryz.prog W 3 [aK]:=by
   have q:Cells Tryz.prog W 3 (([aS,aK,aX].drop 1).take (Tryz.prog.cellsOf 3)):=hf 1 _ rfl
   rw[show Tryz.prog.cellsOf 3 = 1 from by kernel_rfl] at q
   exact q
  have g2:Cells Tryz.prog W 3 [aX]:=by
   have q:Cells Tryz.prog W 3 (([aS,aK,aX].drop 2).take (Tryz.prog.cellsOf 3)):=hf 2 _ rfl
   rw[show Tryz.prog.cellsOf 3 = 1 from by kernel_rfl] at q
   exact q
  obtain ⟨dO,b8⟩:=g0.il Tryz.underlying4
  injection b8 with b8 _
  subst b8
  obtain ⟨ek,aH,cy⟩:=g1.cP Tryz.underlying3
  injection aH with aH _
  subst aH
  obtain ⟨fv,aN,cR⟩:=g2.cP Tryz.underlying3
  injection aN with aN _
  subst aN
  exact⟨⟨dO,ek,fv⟩,aP (.lit _ rfl) (aP (.lit _ rfl) (aP (.lit _ rfl) (gZ))),⟨db cy,db cR⟩⟩
def Eo (S:Nat->Prop) (w:World) (cs:List Value) (x:dH):Prop:=eQ S w (kx x) cs/\jA x
set_option maxRecDepth 100000 in
theorem Ep {W:World} (cs:List Value) (h:Cells Tryz.prog W 235 cs):∃ x,Eo (fun b=>b<W.heap.size) W cs x:=by
 obtain ⟨aq,hf⟩:=h.gV Tryz.underlying235
 rw[show Tryz.prog.cellsOf 235 = 2 from by kernel_rfl] at aq
 match cs,aq,hf with
 | [aS,aK],_,hf=>
  have g0:Cells Tryz.prog W 3 [aS]:=by
   have q:Cells Tryz.prog W 3 (([aS,aK].drop 0).take (Tryz.prog.cellsOf 3)):=hf 0 _ rfl
   rw[show Tryz.prog.cellsOf 3 = 1 from by kernel_rfl] at q
   exact q
  have g1:Cells Tryz.prog W 29 [aK]:=by
   have q:Cells Tryz.prog W 29 (([aS,aK].drop 1).take (Tryz.prog.cellsOf 29)):=hf 1 _ rfl
   rw[show Tryz.prog.cellsOf 29 = 1 from by kernel_rfl] at q
   exact q
  obtain ⟨dO,b8,w0⟩:=g0.cP Tryz.underlying3
  injection b8 with b8 _
  subst b8
  obtain ⟨ek,dD,cy,v1⟩:=hp (enc:=aC) (wf:=fun _=>True) (size:=1) (bytes:=1) Tryz.underlying29 ae ae (by decide) (fun es h=>qo Tryz.underlying5 es h) g1
  exact⟨⟨dO,ek⟩,aP (.lit _ rfl) (aP (dD) (gZ)),⟨db w0,cy⟩⟩
def Er (S:Nat->Prop) (w:World) (cs:List Value) (x:fE):Prop:=eQ S w (l9 x) cs/\iU x
set_option maxRecDepth 100000 in
theorem Es {W:World} (cs:List Value) (h:Cells Tryz.prog W 130 cs):∃ x,Er (fun b=>b<W.heap.size) W cs x:=by
 obtain ⟨aq,hf⟩:=h.gV Tryz.underlying130
 rw[show Tryz.prog.cellsOf 130 = 4 from by kernel_rfl] at aq
 match cs,aq,hf with
 | [aS,aK,aX,bo],_,hf=>
  have g0:Cells Tryz.prog W 3 [aS]:=by
   have q:Cells Tryz.prog W 3 (([aS,aK,aX,bo].drop 0).take (Tryz.prog.cellsOf 3)):=hf 0 _ rfl
   rw[show Tryz.prog.cellsOf 3 = 1 from by kernel_rfl] at q
   exact q
  have g1:Cells Tryz.prog W 128 [aK]:=by
   have q:Cells Tryz.prog W 128 (([aS,aK,aX,bo].drop 1).take (Tryz.prog.cellsOf 128)):=hf 1 _ rfl
   rw[show Tryz.prog.cellsOf 128 = 1 from by kernel_rfl] at q
   exact q
  have g2:Cells Tryz.prog W 3 [aX]:=by
   have q:Cells Tryz.prog W 3 (([aS,aK,aX,bo].drop 2).take (Tryz.prog.cellsOf 3)):=hf 2 _ rfl
   rw[show Tryz.prog.cellsOf 3 = 1 from by kernel_rfl] at q
   exact q
  have g3:Cells Tryz.prog W 3 [bo]:=by
   have q:Cells Tryz.prog W 3 (([aS,aK,aX,bo].drop 3).take (Tryz.prog.cellsOf 3)):=hf 3 _ rfl
   rw[show Tryz.prog.cellsOf 3 = 1 from by kernel_rfl] at q
   exact q
  obtain ⟨dO,b8,w0⟩:=g0.cP Tryz.underlying3
  injection b8 with b8 _
  subst b8
  obtain ⟨ek,dD,cy,v1⟩:=hp (enc:=kx) (wf:=jA) (size:=2) (bytes:=32) Tryz.underlying128 ae ae (by decide) (fun es h=>Ep es h) g1
  obtain ⟨fv,aN,cR⟩:=g2.cP Tryz.underlying3
  injection aN with aN _
  subst aN
  obtain ⟨fi,bS,w3⟩:=g3.cP Tryz.underlying3
  injection bS with bS _
  subst bS
  exact⟨⟨dO,ek,fv,fi⟩,aP (.lit _ rfl) (aP (dD) (aP (.lit _ rfl) (aP (.lit _ rfl) (gZ)))),⟨db w0,cy,v1,db cR,db w3⟩⟩
def Et (S:Nat->Prop) (w:World) (cs:List Value) (x:dE):Prop:=eQ S w (fe x) cs/\hJ x
set_option maxRecDepth 100000 in
theorem Eu {W:World} (cs:List Value) (h:Cells Tryz.prog W 132 cs):∃ x,Et (fun b=>b<W.heap.size) W cs x:=by
 obtain ⟨aq,hf⟩:=h.gV Tryz.underlying132
 rw[show Tryz.prog.cellsOf 132 = 8 from by kernel_rfl] at aq
 match cs,aq,hf with
 | [aS,aK,aX,bo,bQ,b5,b6,cz],_,hf=>
  have g0:Cells Tryz.prog W 29 [aS]:=by
   have q:Cells Tryz.prog W 29 (([aS,aK,aX,bo,bQ,b5,b6,cz].drop 0).take (Tryz.prog.cellsOf 29)):=hf 0 _ rfl
   rw[show Tryz.prog.cellsOf 29 = 1 from by kernel_rfl] at q
   exact q
  have g1:Cells Tryz.prog W 4 [aK]:=by
   have q:Cells Tryz.prog W 4 (([aS,aK,aX,bo,bQ,b5,b6,cz].drop 1).take (Tryz.prog.cellsOf 4)):=hf 1 _ rfl
   rw[show Tryz.prog.cellsOf 4 = 1 from by kernel_rfl] at q
   exact q
  have g2:Cells Tryz.prog W 3 [aX]:=by
   have q:Cells Tryz.prog W 3 (([aS,aK,aX,bo,bQ,b5,b6,cz].drop 2).take (Tryz.prog.cellsOf 3)):=hf 2 _ rfl
   rw[show Tryz.prog.cellsOf 3 = 1 from by kernel_rfl] at q
   exact q
  have g3:Cells Tryz.prog W 3 [bo]:=by
   have q:Cells Tryz.prog W 3 (([aS,aK,aX,bo,bQ,b5,b6,cz].drop 3).take (Tryz.prog.cellsOf 3)):=hf 3 _ rfl
   rw[show Tryz.prog.cellsOf 3 = 1 from by kernel_rfl] at q
   exact q
  have g4:Cells Tryz.prog W 40 [bQ]:=by
   have q:Cells Tryz.prog W 40 (([aS,aK,aX,bo,bQ,b5,b6,cz].drop 4).take (Tryz.prog.cellsOf 40)):=hf 4 _ rfl
   rw[show Tryz.prog.cellsOf 40 = 1 from by kernel_rfl] at q
   exact q
  have g5:Cells Tryz.prog W 40 [b5]:=by
   have q:Cells Tryz.prog W 40 (([aS,aK,aX,bo,bQ,b5,b6,cz].drop 5).take (Tryz.prog.cellsOf 40)):=hf 5 _ rfl
   rw[show Tryz.prog.cellsOf 40 = 1 from by kernel_rfl] at q
   exact q
  have g6:Cells Tryz.prog W 4 [b6]:=by
   have q:Cells Tryz.prog W 4 (([aS,aK,aX,bo,bQ,b5,b6,cz].drop 6).take (Tryz.prog.cellsOf 4)):=hf 6 _ rfl
   rw[show Tryz.prog.cellsOf 4 = 1 from by kernel_rfl] at q
   exact q
  have g7:Cells Tryz.prog W 4 [cz]:=by
   have q:Cells Tryz.prog W 4 (([aS,aK,aX,bo,bQ,b5,b6,cz].drop 7).take (Tryz.prog.cellsOf 4)):=hf 7 _ rfl
   rw[show Tryz.prog.cellsOf 4 = 1 from by kernel_rfl] at q
   exact q
  obtain ⟨dO,pr,w0,v0⟩:=hp (enc:=aC) (wf:=fun _=>True) (size:=1) (bytes:=1) Tryz.underlying29 ae ae (by decide) (fun es h=>qo Tryz.underlying5 es h) g0
  obtain ⟨ek,aH⟩:=g1.il Tryz.underlying4
  injection aH with aH _
  subst aH
  obtain ⟨fv,aN,cR⟩:=g2.cP Tryz.underlying3
  injection aN with aN _
  subst aN
  obtain ⟨fi,bS,w3⟩:=g3.cP Tryz.underlying3
  injection bS with bS _
  subst bS
  obtain ⟨iJ,iS,ef,v4⟩:=hp (enc:=aD) (wf:=fz) (size:=2) (bytes:=16) Tryz.underlying40 ae ae (by decide) (fun es h=>qu es h) g4
  obtain ⟨jW,cT,dU,v5⟩:=hp (enc:=aD) (wf:=fz) (size:=2) (bytes:=16) Tryz.underlying40 ae ae (by decide) (fun es h=>qu es h) g5
  obtain ⟨nD,kn⟩:=g6.il Tryz.underlying4
  injection kn with kn _
  subst kn
  obtain ⟨qv,mo⟩:=g7.il Tryz.underlying4
  injection mo with mo _
  subst mo
  exact⟨⟨dO,ek,fv,fi,iJ,jW,nD,qv⟩,aP (pr) (aP (.lit _ rfl) (aP (.lit _ rfl) (aP (.lit _ rfl) (aP (iS) (aP (cT) (aP (.lit _ rfl) (aP (.lit _ rfl) (gZ)))))))),⟨w0,db cR,db w3,ef,v4,dU,v5⟩⟩
def Ev (S:Nat->Prop) (w:World) (cs:List Value) (x:bc):Prop:=eQ S w (aW x) cs/\dC x
set_option maxRecDepth 100000 in
theorem w1 {W:World} (cs:List Value) (h:Cells Tryz.prog W 111 cs):∃ x,Ev (fun b=>b<W.heap.size) W cs x:=by
 obtain ⟨aq,hf⟩:=h.gV Tryz.underlying111
 rw[show Tryz.prog.cellsOf 111 = 7 from by kernel_rfl] at aq
 match cs,aq,hf with
 | [aS,aK,aX,bo,bQ,b5,b6],_,hf=>
  have g0:Cells Tryz.prog W 3 [aS]:=by
   have q:Cells Tryz.prog W 3 (([aS,aK,aX,bo,bQ,b5,b6].drop 0).take (Tryz.prog.cellsOf 3)):=hf 0 _ rfl
   rw[show Tryz.prog.cellsOf 3 = 1 from by kernel_rfl] at q
   exact q
  have g1:Cells Tryz.prog W 3 [aK]:=by
   have q:Cells Tryz.prog W 3 (([aS,aK,aX,bo,bQ,b5,b6].drop 1).take (Tryz.prog.cellsOf 3)):=hf 1 _ rfl
   rw[show Tryz.prog.cellsOf 3 = 1 from by kernel_rfl] at q
   exact q
  have g2:Cells Tryz.prog W 3 [aX]:=by
   have q:Cells Tryz.prog W 3 (([aS,aK,aX,bo,bQ,b5,b6].drop 2).take (Tryz.prog.cellsOf 3)):=hf 2 _ rfl
   rw[show Tryz.prog.cellsOf 3 = 1 from by kernel_rfl] at q
   exact q
  have g3:Cells Tryz.prog W 4 [bo]:=by
   have q:Cells Tryz.prog W 4 (([aS,aK,aX,bo,bQ,b5,b6].drop 3).take (Tryz.prog.cellsOf 4)):=hf 3 _ rfl
   rw[show Tryz.prog.cellsOf 4 = 1 from by kernel_rfl] at q
   exact q
  have g4:Cells Tryz.prog W 3 [bQ]:=by
   have q:Cells Tryz.prog W 3 (([aS,aK,aX,bo,bQ,b5,b6].drop 4).take (Tryz.prog.cellsOf 3)):=hf 4 _ rfl
   rw[show Tryz.prog.cellsOf 3 = 1 from by kernel_rfl] at q
   exact q
  have g5:Cells Tryz.prog W 40 [b5]:=by
   have q:Cells Tryz.prog W 40 (([aS,aK,aX,bo,bQ,b5,b6].drop 5).take (Tryz.prog.cellsOf 40)):=hf 5 _ rfl
   rw[show Tryz.prog.cellsOf 40 = 1 from by kernel_rfl] at q
   exact q
  have g6:Cells Tryz.prog W 29 [b6]:=by
   have q:Cells Tryz.prog W 29 (([aS,aK,aX,bo,bQ,b5,b6].drop 6).take (Tryz.prog.cellsOf 29)):=hf 6 _ rfl
   rw[show Tryz.prog.cellsOf 29 = 1 from by kernel_rfl] at q
   exact q
  obtain ⟨dO,b8,w0⟩:=g0.cP Tryz.underlying3
  injection b8 with b8 _
  subst b8
  obtain ⟨ek,aH,cy⟩:=g1.cP Tryz.underlying3
  injection aH with aH _
  subst aH
  obtain ⟨fv,aN,cR⟩:=g2.cP Tryz.underlying3
  injection aN with aN _
  subst aN
  obtain ⟨fi,bS⟩:=g3.il Tryz.underlying4
  injection bS with bS _
  subst bS
  obtain ⟨iJ,eK,ef⟩:=g4.cP Tryz.underlying3
  injection eK with eK _
  subst eK
  obtain ⟨jW,cT,dU,v5⟩:=hp (enc:=aD) (wf:=fz) (size:=2) (bytes:=16) Tryz.underlying40 ae ae (by decide) (fun es h=>qu es h) g5
  obtain ⟨nD,ps,eS,v6⟩:=hp (enc:=aC) (wf:=fun _=>True) (size:=1) (bytes:=1) Tryz.underlying29 ae ae (by decide) (fun es h=>qo Tryz.underlying5 es h) g6
  exact⟨⟨dO,ek,fv,fi,iJ,jW,nD⟩,aP (.lit _ rfl) (aP (.lit _ rfl) (aP (.lit _ rfl) (aP (.lit _ rfl) (aP (.lit _ rfl) (aP (cT) (aP (ps) (gZ))))))),⟨db w0,db cy,db cR,db ef,dU,v5,eS⟩⟩
def RJ (S:Nat->Prop) (w:World) (cs:List Value) (x:gy):Prop:=eQ S w (k7 x) cs/\mK x
def Ew (S:Nat->Prop) (w:World) (cs:List Value) (x:eN):Prop:=eQ S w (bY x) cs/\jg x
set_option maxRecDepth 100000 in
theorem Ex {W:World} (cs:List Value) (h:Cells Tryz.prog W 198 cs):∃ x,Ew (fun b=>b<W.heap.size) W cs x:=by
 obtain ⟨aq,hf⟩:=h.gV Tryz.underlying198
 rw[show Tryz.prog.cellsOf 198 = 4 from by kernel_rfl] at aq
 match cs,aq,hf with
 | [aS,aK,aX,bo],_,hf=>
  have g0:Cells Tryz.prog W 3 [aS]:=by
   have q:Cells Tryz.prog W 3 (([aS,aK,aX,bo].drop 0).take (Tryz.prog.cellsOf 3)):=hf 0 _ rfl
   rw[show Tryz.prog.cellsOf 3 = 1 from by kernel_rfl] at q
   exact q
  have g1:Cells Tryz.prog W 3 [aK]:=by
   have q:Cells Tryz.prog W 3 (([aS,aK,aX,bo].drop 1).take (Tryz.prog.cellsOf 3)):=hf 1 _ rfl
   rw[show Tryz.prog.cellsOf 3 = 1 from by kernel_rfl] at q
   exact q
  have g2:Cells Tryz.prog W 3 [aX]:=by
   have q:Cells Tryz.prog W 3 (([aS,aK,aX,bo].drop 2).take (Tryz.prog.cellsOf 3)):=hf 2 _ rfl
   rw[show Tryz.prog.cellsOf 3 = 1 from by kernel_rfl] at q
   exact q
  have g3:Cells Tryz.prog W 49 [bo]:=by
   have q:Cells Tryz.prog W 49 (([aS,aK,aX,bo].drop 3).take (Tryz.prog.cellsOf 49)):=hf 3 _ rfl
   rw[show Tryz.prog.cellsOf 49 = 1 from by kernel_rfl] at q
   exact q
  obtain ⟨dO,b8,w0⟩:=g0.cP Tryz.underlying3
  injection b8 with b8 _
  subst b8
  obtain ⟨ek,aH,cy⟩:=g1.cP Tryz.underlying3
  injection aH with aH _
  subst aH
  obtain ⟨fv,aN,cR⟩:=g2.cP Tryz.underlying3
  injection aN with aN _
  subst aN
  obtain ⟨fi,fb,w3,v3⟩:=hp (enc:=aW) (wf:=dC) (size:=7) (bytes:=88) Tryz.underlying49 ae ae (by decide) (fun es h=>w1 es h) g3
  exact⟨⟨dO,ek,fv,fi⟩,aP (.lit _ rfl) (aP (.lit _ rfl) (aP (.lit _ rfl) (aP (fb) (gZ)))),⟨db w0,db cy,db cR,w3,v3⟩⟩
def Ey (S:Nat->Prop) (w:World) (cs:List Value) (x:c8):Prop:=eQ S w (gC x) cs/\eF x
set_option maxRecDepth 100000 in
theorem Ez {W:World} (cs:List Value) (h:Cells Tryz.prog W 43 cs):∃ x,Ey (fun b=>b<W.heap.size) W cs x:=by
 obtain ⟨aq,hf⟩:=h.gV Tryz.underlying43
 rw[show Tryz.prog.cellsOf 43 = 5 from by kernel_rfl] at aq
 match cs,aq,hf with
 | [aS,aK,aX,bo,bQ],_,hf=>
  have g0:Cells Tryz.prog W 3 [aS]:=by
   have q:Cells Tryz.prog W 3 (([aS,aK,aX,bo,bQ].drop 0).take (Tryz.prog.cellsOf 3)):=hf 0 _ rfl
   rw[show Tryz.prog.cellsOf 3 = 1 from by kernel_rfl] at q
   exact q
  have g1:Cells Tryz.prog W 39 [aK]:=by
   have q:Cells Tryz.prog W 39 (([aS,aK,aX,bo,bQ].drop 1).take (Tryz.prog.cellsOf 39)):=hf 1 _ rfl
   rw[show Tryz.prog.cellsOf 39 = 1 from by kernel_rfl] at q
   exact q
  have g2:Cells Tryz.prog W 3 [aX]:=by
   have q:Cells Tryz.prog W 3 (([aS,aK,aX,bo,bQ].drop 2).take (Tryz.prog.cellsOf 3)):=hf 2 _ rfl
   rw[show Tryz.prog.cellsOf 3 = 1 from by kernel_rfl] at q
   exact q
  have g3:Cells Tryz.prog W 40 [bo]:=by
   have q:Cells Tryz.prog W 40 (([aS,aK,aX,bo,bQ].drop 3).take (Tryz.prog.cellsOf 40)):=hf 3 _ rfl
   rw[show Tryz.prog.cellsOf 40 = 1 from by kernel_rfl] at q
   exact q
  have g4:Cells Tryz.prog W 41 [bQ]:=by
   have q:Cells Tryz.prog W 41 (([aS,aK,aX,bo,bQ].drop 4).take (Tryz.prog.cellsOf 41)):=hf 4 _ rfl
   rw[show Tryz.prog.cellsOf 41 = 1 from by kernel_rfl] at q
   exact q
  obtain ⟨dO,b8,w0⟩:=g0.cP Tryz.underlying3
  injection b8 with b8 _
  subst b8
  obtain ⟨ek,dD,cy,v1⟩:=hp (enc:=bY) (wf:=jg) (size:=4) (bytes:=48) Tryz.underlying39 ae ae (by decide) (fun es h=>Ex es h) g1
  obtain ⟨fv,aN,cR⟩:=g2.cP Tryz.underlying3
  injection aN with aN _
  subst aN
  obtain ⟨fi,fb,w3,v3⟩:=hp (enc:=aD) (wf:=fz) (size:=2) (bytes:=16) Tryz.underlying40 ae ae (by decide) (fun es h=>qu es h) g3
  obtain ⟨iJ,iS,ef,v4⟩:=hp (enc:=encI) (wf:=aF) (size:=1) (bytes:=8) Tryz.underlying41 ae ae (by decide) (fun es h=>D2 Tryz.underlying3 es h) g4
  exact⟨⟨dO,ek,fv,fi,iJ⟩,aP (.lit _ rfl) (aP (dD) (aP (.lit _ rfl) (aP (fb) (aP (iS) (gZ))))),⟨db w0,cy,v1,db cR,w3,v3,ef,v4⟩⟩
def EA (S:Nat->Prop) (w:World) (cs:List Value) (x:dV):Prop:=eQ S w (cv x) cs/\gM x
set_option maxRecDepth 100000 in
theorem EB {W:World} (cs:List Value) (h:Cells Tryz.prog W 134 cs):∃ x,EA (fun b=>b<W.heap.size) W cs x:=by
 obtain ⟨aq,hf⟩:=h.gV Tryz.underlying134
 rw[show Tryz.prog.cellsOf 134 = 16 from by kernel_rfl] at aq
 match cs,aq,hf with
 | [aS,aK,aX,bo,bQ,b5,b6,cz,dd,de,df,dg,dh,di,dj,dk],_,hf=>
  have g0:Cells Tryz.prog W 3 [aS]:=by
   have q:Cells Tryz.prog W 3 (([aS,aK,aX,bo,bQ,b5,b6,cz,dd,de,df,dg,dh,di,dj,dk].drop 0).take (Tryz.prog.cellsOf 3)):=hf 0 _ rfl
   rw[show Tryz.prog.cellsOf 3 = 1 from by kernel_rfl] at q
   exact q
  have g1:Cells Tryz.prog W 130 [aK,aX,bo,bQ]:=by
   have q:Cells Tryz.prog W 130 (([aS,aK,aX,bo,bQ,b5,b6,cz,dd,de,df,dg,dh,di,dj,dk].drop 1).take (Tryz.prog.cellsOf 130)):=hf 1 _ rfl
   rw[show Tryz.prog.cellsOf 130 = 4 from by kernel_rfl] at q
   exact q
  have g2:Cells Tryz.prog W 29 [b5]:=by
   have q:Cells Tryz.prog W 29 (([aS,aK,aX,bo,bQ,b5,b6,cz,dd,de,df,dg,dh,di,dj,dk].drop 5).take (Tryz.prog.cellsOf 29)):=hf 2 _ rfl
   rw[show Tryz.prog.cellsOf 29 = 1 from by kernel_rfl] at q
   exact q
  have g3:Cells Tryz.prog W 4 [b6]:=by
   have q:Cells Tryz.prog W 4 (([aS,aK,aX,bo,bQ,b5,b6,cz,dd,de,df,dg,dh,di,dj,dk].drop 6).take (Tryz.prog.cellsOf 4)):=hf 3 _ rfl
   rw[show Tryz.prog.cellsOf 4 = 1 from by kernel_rfl] at q
   exact q
  have g4:Cells Tryz.prog W 4 [cz]:=by
   have q:Cells Tryz.prog W 4 (([aS,aK,aX,bo,bQ,b5,b6,cz,dd,de,df,dg,dh,di,dj,dk].drop 7).take (Tryz.prog.cellsOf 4)):=hf 4 _ rfl
   rw[show Tryz.prog.cellsOf 4 = 1 from by kernel_rfl] at q
   exact q
  have g5:Cells Tryz.prog W 132 [dd,de,df,dg,dh,di,dj,dk]:=by
   have q:Cells Tryz.prog W 132 (([aS,aK,aX,bo,bQ,b5,b6,cz,dd,de,df,dg,dh,di,dj,dk].drop 8).take (Tryz.prog.cellsOf 132)):=hf 5 _ rfl
   rw[show Tryz.prog.cellsOf 132 = 8 from by kernel_rfl] at q
   exact q
  obtain ⟨dO,b8,w0⟩:=g0.cP Tryz.underlying3
  injection b8 with b8 _
  subst b8
  obtain ⟨ek,⟨iA,dD⟩,cy⟩:=Es _ g1
  obtain ⟨fv,c7,cR,v2⟩:=hp (enc:=aC) (wf:=fun _=>True) (size:=1) (bytes:=1) Tryz.underlying29 ae ae (by decide) (fun es h=>qo Tryz.underlying5 es h) g2
  obtain ⟨fi,bS⟩:=g3.il Tryz.underlying4
  injection bS with bS _
  subst bS
  obtain ⟨iJ,eK⟩:=g4.il Tryz.underlying4
  injection eK with eK _
  subst eK
  obtain ⟨jW,⟨nE,cT⟩,dU⟩:=Eu _ g5
  exact⟨⟨dO,ek,fv,fi,iJ,jW⟩,aP (.lit _ rfl) (aP (dD 0 (by show 0<4;decide)) (aP (dD 1 (by show 1<4;decide)) (aP (dD 2 (by show 2<4;decide)) (aP (dD 3 (by show 3<4;decide)) (aP (c7) (aP (.lit _ rfl) (aP (.lit _ rfl) (aP (cT 0 (by show 0<8;decide)) (aP (cT 1 (by show 1<8;decide)) (aP (cT 2 (by show 2<8;decide)) (aP (cT 3 (by show 3<8;decide)) (aP (cT 4 (by show 4<8;decide)) (aP (cT 5 (by show 5<8;decide)) (aP (cT 6 (by show 6<8;decide)) (aP (cT 7 (by show 7<8;decide)) (gZ)))))))))))))))),⟨db w0,cy,cR,dU⟩⟩
def EC (S:Nat->Prop) (w:World) (cs:List Value) (x:a6):Prop:=eQ S w (e2 x) cs/\ej x
set_option maxRecDepth 100000 in
theorem ED {W:World} (cs:List Value) (h:Cells Tryz.prog W 51 cs):∃ x,EC (fun b=>b<W.heap.size) W cs x:=by
 obtain ⟨aq,hf⟩:=h.gV Tryz.underlying51
 rw[show Tryz.prog.cellsOf 51 = 24 from by kernel_rfl] at aq
 match cs,aq,hf with
 | [aS,aK,aX,bo,bQ,b5,b6,cz,dd,de,df,dg,dh,di,dj,dk,eg,eh,eW,eX,eY,eZ,e0,e1],_,hf=>
  have g0:Cells Tryz.prog W 4 [aS]:=by
   have q:Cells Tryz.prog W 4 (([aS,aK,aX,bo,bQ,b5,b6,cz,dd,de,df,dg,dh,di,dj,dk,eg,eh,eW,eX,eY,eZ,e0,e1].drop 0).take (Tryz.prog.cellsOf 4)):=hf 0 _ rfl
   rw[show Tryz.prog.cellsOf 4 = 1 from by kernel_rfl] at q
   exact q
  have g1:Cells Tryz.prog W 43 [aK,aX,bo,bQ,b5]:=by
   have q:Cells Tryz.prog W 43 (([aS,aK,aX,bo,bQ,b5,b6,cz,dd,de,df,dg,dh,di,dj,dk,eg,eh,eW,eX,eY,eZ,e0,e1].drop 1).take (Tryz.prog.cellsOf 43)):=hf 1 _ rfl
   rw[show Tryz.prog.cellsOf 43 = 5 from by kernel_rfl] at q
   exact q
  have g2:Cells Tryz.prog W 45 [b6,cz,dd,de]:=by
   have q:Cells Tryz.prog W 45 (([aS,aK,aX,bo,bQ,b5,b6,cz,dd,de,df,dg,dh,di,dj,dk,eg,eh,eW,eX,eY,eZ,e0,e1].drop 6).take (Tryz.prog.cellsOf 45)):=hf 2 _ rfl
   rw[show Tryz.prog.cellsOf 45 = 4 from by kernel_rfl] at q
   exact q
  have g3:Cells Tryz.prog W 47 [df,dg]:=by
   have q:Cells Tryz.prog W 47 (([aS,aK,aX,bo,bQ,b5,b6,cz,dd,de,df,dg,dh,di,dj,dk,eg,eh,eW,eX,eY,eZ,e0,e1].drop 10).take (Tryz.prog.cellsOf 47)):=hf 3 _ rfl
   rw[show Tryz.prog.cellsOf 47 = 2 from by kernel_rfl] at q
   exact q
  have g4:Cells Tryz.prog W 47 [dh,di]:=by
   have q:Cells Tryz.prog W 47 (([aS,aK,aX,bo,bQ,b5,b6,cz,dd,de,df,dg,dh,di,dj,dk,eg,eh,eW,eX,eY,eZ,e0,e1].drop 12).take (Tryz.prog.cellsOf 47)):=hf 4 _ rfl
   rw[show Tryz.prog.cellsOf 47 = 2 from by kernel_rfl] at q
   exact q
  have g5:Cells Tryz.prog W 3 [dj]:=by
   have q:Cells Tryz.prog W 3 (([aS,aK,aX,bo,bQ,b5,b6,cz,dd,de,df,dg,dh,di,dj,dk,eg,eh,eW,eX,eY,eZ,e0,e1].drop 14).take (Tryz.prog.cellsOf 3)):=hf 5 _ rfl
   rw[show Tryz.prog.cellsOf 3 = 1 from by kernel_rfl] at q
   exact q
  have g6:Cells Tryz.prog W 3 [dk]:=by
   have q:Cells Tryz.prog W 3 (([aS,aK,aX,bo,bQ,b5,b6,cz,dd,de,df,dg,dh,di,dj,dk,eg,eh,eW,eX,eY,eZ,e0,e1].drop 15).take (Tryz.prog.cellsOf 3)):=hf 6 _ rfl
   rw[show Tryz.prog.cellsOf 3 = 1 from by kernel_rfl] at q
   exact q
  have g7:Cells Tryz.prog W 3 [eg]:=by
   have q:Cells Tryz.prog W 3 (([aS,aK,aX,bo,bQ,b5,b6,cz,dd,de,df,dg,dh,di,dj,dk,eg,eh,eW,eX,eY,eZ,e0,e1].drop 16).take (Tryz.prog.cellsOf 3)):=hf 7 _ rfl
   rw[show Tryz.prog.cellsOf 3 = 1 from by kernel_rfl] at q
   exact q
  have g8:Cells Tryz.prog W 48 [eh]:=by
   have q:Cells Tryz.prog W 48 (([aS,aK,aX,bo,bQ,b5,b6,cz,dd,de,df,dg,dh,di,dj,dk,eg,eh,eW,eX,eY,eZ,e0,e1].drop 17).take (Tryz.prog.cellsOf 48)):=hf 8 _ rfl
   rw[show Tryz.prog.cellsOf 48 = 1 from by kernel_rfl] at q
   exact q
  have g9:Cells Tryz.prog W 4 [eW]:=by
   have q:Cells Tryz.prog W 4 (([aS,aK,aX,bo,bQ,b5,b6,cz,dd,de,df,dg,dh,di,dj,dk,eg,eh,eW,eX,eY,eZ,e0,e1].drop 18).take (Tryz.prog.cellsOf 4)):=hf 9 _ rfl
   rw[show Tryz.prog.cellsOf 4 = 1 from by kernel_rfl] at q
   exact q
  have g10:Cells Tryz.prog W 49 [eX]:=by
   have q:Cells Tryz.prog W 49 (([aS,aK,aX,bo,bQ,b5,b6,cz,dd,de,df,dg,dh,di,dj,dk,eg,eh,eW,eX,eY,eZ,e0,e1].drop 19).take (Tryz.prog.cellsOf 49)):=hf 10 _ rfl
   rw[show Tryz.prog.cellsOf 49 = 1 from by kernel_rfl] at q
   exact q
  have g11:Cells Tryz.prog W 3 [eY]:=by
   have q:Cells Tryz.prog W 3 (([aS,aK,aX,bo,bQ,b5,b6,cz,dd,de,df,dg,dh,di,dj,dk,eg,eh,eW,eX,eY,eZ,e0,e1].drop 20).take (Tryz.prog.cellsOf 3)):=hf 11 _ rfl
   rw[show Tryz.prog.cellsOf 3 = 1 from by kernel_rfl] at q
   exact q
  have g12:Cells Tryz.prog W 3 [eZ]:=by
   have q:Cells Tryz.prog W 3 (([aS,aK,aX,bo,bQ,b5,b6,cz,dd,de,df,dg,dh,di,dj,dk,eg,eh,eW,eX,eY,eZ,e0,e1].drop 21).take (Tryz.prog.cellsOf 3)):=hf 12 _ rfl
   rw[show Tryz.prog.cellsOf 3 = 1 from by kernel_rfl] at q
   exact q
  have g13:Cells Tryz.prog W 4 [e0]:=by
   have q:Cells Tryz.prog W 4 (([aS,aK,aX,bo,bQ,b5,b6,cz,dd,de,df,dg,dh,di,dj,dk,eg,eh,eW,eX,eY,eZ,e0,e1].drop 22).take (Tryz.prog.cellsOf 4)):=hf 13 _ rfl
   rw[show Tryz.prog.cellsOf 4 = 1 from by kernel_rfl] at q
   exact q
  have g14:Cells Tryz.prog W 3 [e1]:=by
   have q:Cells Tryz.prog W 3 (([aS,aK,aX,bo,bQ,b5,b6,cz,dd,de,df,dg,dh,di,dj,dk,eg,eh,eW,eX,eY,eZ,e0,e1].drop 23).take (Tryz.prog.cellsOf 3)):=hf 14 _ rfl
   rw[show Tryz.prog.cellsOf 3 = 1 from by kernel_rfl] at q
   exact q
  obtain ⟨dO,b8⟩:=g0.il Tryz.underlying4
  injection b8 with b8 _
  subst b8
  obtain ⟨ek,⟨iA,dD⟩,cy⟩:=Ez _ g1
  obtain ⟨fv,⟨iw,c7⟩,cR⟩:=Em _ g2
  obtain ⟨fi,⟨lC,fb⟩,w3⟩:=wY _ g3
  obtain ⟨iJ,⟨iX,iS⟩,ef⟩:=wY _ g4
  obtain ⟨jW,iI,dU⟩:=g5.cP Tryz.underlying3
  injection iI with iI _
  subst iI
  obtain ⟨nD,kn,eS⟩:=g6.cP Tryz.underlying3
  injection kn with kn _
  subst kn
  obtain ⟨qv,mo,fV⟩:=g7.cP Tryz.underlying3
  injection mo with mo _
  subst mo
  obtain ⟨w2,EE,h0,EF⟩:=hp (enc:=cv) (wf:=gM) (size:=16) (bytes:=192) Tryz.underlying48 ae ae (by decide) (fun es h=>EB es h) g8
  obtain ⟨w4,oO⟩:=g9.il Tryz.underlying4
  injection oO with oO _
  subst oO
  obtain ⟨EG,EH,jf,v10⟩:=hp (enc:=aW) (wf:=dC) (size:=7) (bytes:=88) Tryz.underlying49 ae ae (by decide) (fun es h=>w1 es h) g10
  obtain ⟨EI,s7,jv⟩:=g11.cP Tryz.underlying3
  injection s7 with s7 _
  subst s7
  obtain ⟨EJ,s8,jw⟩:=g12.cP Tryz.underlying3
  injection s8 with s8 _
  subst s8
  obtain ⟨EK,s9⟩:=g13.il Tryz.underlying4
  injection s9 with s9 _
  subst s9
  obtain ⟨EL,ta,EM⟩:=g14.cP Tryz.underlying3
  injection ta with ta _
  subst ta
  exact⟨⟨dO,ek,fv,fi,iJ,jW,nD,qv,w2,w4,EG,EI,EJ,EK,EL⟩,aP (.lit _ rfl) (aP (dD 0 (by show 0<5;decide)) (aP (dD 1 (by show 1<5;decide)) (aP (dD 2 (by show 2<5;decide)) (aP (dD 3 (by show 3<5;decide)) (aP (dD 4 (by show 4<5;decide)) (aP (c7 0 (by show 0<4;decide)) (aP (c7 1 (by show 1<4;decide)) (aP (c7 2 (by show 2<4;decide)) (aP (c7 3 (by show 3<4;decide)) (aP (fb 0 (by show 0<2;decide)) (aP (fb 1 (by show 1<2;decide)) (aP (iS 0 (by show 0<2;decide)) (aP (iS 1 (by show 1<2;decide)) (aP (.lit _ rfl) (aP (.lit _ rfl) (aP (.lit _ rfl) (aP (EE) (aP (.lit _ rfl) (aP (EH) (aP (.lit _ rfl) (aP (.lit _ rfl) (aP (.lit _ rfl) (aP (.lit _ rfl) (gZ)))))))))))))))))))))))),⟨cy,cR,w3,ef,db dU,db eS,db fV,h0,EF,jf,v10,db jv,db jw,db EM⟩⟩
def EN (S:Nat->Prop) (w:World) (cs:List Value) (x:cb):Prop:=eQ S w (cQ x) cs/\hY x
set_option maxRecDepth 100000 in
theorem JP {W:World} (cs:List Value) (h:Cells Tryz.prog W 90 cs):∃ x,EN (fun b=>b<W.heap.size) W cs x:=by
 obtain ⟨aq,hf⟩:=h.gV Tryz.underlying90
 rw[show Tryz.prog.cellsOf 90 = 29 from by kernel_rfl] at aq
 match cs,aq,hf with
 | [aS,aK,aX,bo,bQ,b5,b6,cz,dd,de,df,dg,dh,di,dj,dk,eg,eh,eW,eX,eY,eZ,e0,e1,mq,mr,ms,mu,mv],_,hf=>
  have g0:Cells Tryz.prog W 3 [aS]:=by
   have q:Cells Tryz.prog W 3 (([aS,aK,aX,bo,bQ,b5,b6,cz,dd,de,df,dg,dh,di,dj,dk,eg,eh,eW,eX,eY,eZ,e0,e1,mq,mr,ms,mu,mv].drop 0).take (Tryz.prog.cellsOf 3)):=hf 0 _ rfl
   rw[show Tryz.prog.cellsOf 3 = 1 from by kernel_rfl] at q
   exact q
  have g1:Cells Tryz.prog W 3 [aK]:=by
   have q:Cells Tryz.prog W 3 (([aS,aK,aX,bo,bQ,b5,b6,cz,dd,de,df,dg,dh,di,dj,dk,eg,eh,eW,eX,eY,eZ,e0,e1,mq,mr,ms,mu,mv].drop 1).take (Tryz.prog.cellsOf 3)):=hf 1 _ rfl
   rw[show Tryz.prog.cellsOf 3 = 1 from by kernel_rfl] at q
   exact q
  have g2:Cells Tryz.prog W 3 [aX]:=by
   have q:Cells Tryz.prog W 3 (([aS,aK,aX,bo,bQ,b5,b6,cz,dd,de,df,dg,dh,di,dj,dk,eg,eh,eW,eX,eY,eZ,e0,e1,mq,mr,ms,mu,mv].drop 2).take (Tryz.prog.cellsOf 3)):=hf 2 _ rfl
   rw[show Tryz.prog.cellsOf 3 = 1 from by kernel_rfl] at q
   exact q
  have g3:Cells Tryz.prog W 22 [bo]:=by
   have q:Cells Tryz.prog W 22 (([aS,aK,aX,bo,bQ,b5,b6,cz,dd,de,df,dg,dh,di,dj,dk,eg,eh,eW,eX,eY,eZ,e0,e1,mq,mr,ms,mu,mv].drop 3).take (Tryz.prog.cellsOf 22)):=hf 3 _ rfl
   rw[show Tryz.prog.cellsOf 22 = 1 from by kernel_rfl] at q
   exact q
  have g4:Cells Tryz.prog W 4 [bQ]:=by
   have q:Cells Tryz.prog W 4 (([aS,aK,aX,bo,bQ,b5,b6,cz,dd,de,df,dg,dh,di,dj,dk,eg,eh,eW,eX,eY,eZ,e0,e1,mq,mr,ms,mu,mv].drop 4).take (Tryz.prog.cellsOf 4)):=hf 4 _ rfl
   rw[show Tryz.prog.cellsOf 4 = 1 from by kernel_rfl] at q
   exact q
  have g5:Cells Tryz.prog W 51 [b5,b6,cz,dd,de,df,dg,dh,di,dj,dk,eg,eh,eW,eX,eY,eZ,e0,e1,mq,mr,ms,mu,mv]:=by
   have q:Cells Tryz.prog W 51 (([aS,aK,aX,bo,bQ,b5,b6,cz,dd,de,df,dg,dh,di,dj,dk,eg,eh,eW,eX,eY,eZ,e0,e1,mq,mr,ms,mu,mv].drop 5).take (Tryz.prog.cellsOf 51)):=hf 5 _ rfl
   rw[show Tryz.prog.cellsOf 51 = 24 from by kernel_rfl] at q
   exact q
  obtain ⟨dO,b8,w0⟩:=g0.cP Tryz.underlying3
  injection b8 with b8 _
  subst b8
  obtain ⟨ek,aH,cy⟩:=g1.cP Tryz.underlying3
  injection aH with aH _
  subst aH
  obtain ⟨fv,aN,cR⟩:=g2.cP Tryz.underlying3
  injection aN with aN _
  subst aN
  obtain ⟨fi,bS,w3⟩:=g3.cP Tryz.underlying22
  injection bS with bS _
  subst bS
  obtain ⟨iJ,eK⟩:=g4.il Tryz.underlying4
  injection eK with eK _
  subst eK
  obtain ⟨jW,⟨nE,cT⟩,dU⟩:=ED _ g5
  exact⟨⟨dO,ek,fv,fi,iJ,jW⟩,aP (.lit _ rfl) (aP (.lit _ rfl) (aP (.lit _ rfl) (aP (.lit _ rfl) (aP (.lit _ rfl) (aP (cT 0 (by show 0<24;decide)) (aP (cT 1 (by show 1<24;decide)) (aP (cT 2 (by show 2<24;decide)) (aP (cT 3 (by show 3<24;decide)) (aP (cT 4 (by show 4<24;decide)) (aP (cT 5 (by show 5<24;decide)) (aP (cT 6 (by show 6<24;decide)) (aP (cT 7 (by show 7<24;decide)) (aP (cT 8 (by show 8<24;decide)) (aP (cT 9 (by show 9<24;decide)) (aP (cT 10 (by show 10<24;decide)) (aP (cT 11 (by show 11<24;decide)) (aP (cT 12 (by show 12<24;decide)) (aP (cT 13 (by show 13<24;decide)) (aP (cT 14 (by show 14<24;decide)) (aP (cT 15 (by show 15<24;decide)) (aP (cT 16 (by show 16<24;decide)) (aP (cT 17 (by show 17<24;decide)) (aP (cT 18 (by show 18<24;decide)) (aP (cT 19 (by show 19<24;decide)) (aP (cT 20 (by show 20<24;decide)) (aP (cT 21 (by show 21<24;decide)) (aP (cT 22 (by show 22<24;decide)) (aP (cT 23 (by show 23<24;decide)) (gZ))))))))))))))))))))))))))))),⟨db w0,db cy,db cR,D1 w3,dU⟩⟩
def RK (S:Nat->Prop) (w:World) (cs:List Value) (x:dG):Prop:=eQ S w (dc x) cs/\vK x
def RL (S:Nat->Prop) (w:World) (cs:List Value) (x:h2):Prop:=eQ S w (vL x) cs/\sB x
def RM (S:Nat->Prop) (w:World) (cs:List Value) (x:uf):Prop:=eQ S w (Hr x) cs/\CO x
def RN (S:Nat->Prop) (w:World) (cs:List Value) (x:sC):Prop:=eQ S w (CP x) cs/\vM x
end Go.Proofs.YtendheafcbickaaGreat
