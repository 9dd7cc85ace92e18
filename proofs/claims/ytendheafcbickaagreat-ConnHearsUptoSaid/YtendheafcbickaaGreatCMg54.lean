/-
  SEVERAL TEXTS IN ONE: each with its own comment.
-/
import Derived.Test.YtendheafcbickaaGreatCMg38
set_option linter.unusedVariables false
set_option linter.unusedSimpArgs false
namespace Go.Proofs.YtendheafcbickaaGreat
variable {P:Program} {S:Nat->Prop} {W w:World} {cs xs:List V} {es vs:List Value} {t:TypeId} {u:Value}
open Go.ChangeShapes Go.WideShapes Go.ChangeAt Go.RowKit Go.Deep
theorem en {x:Int} (h:(Lit.int .i64 x).wf=true):aE x:=bounds_i64 h
def e8 (S:Nat->Prop) (w:World) (cs:List V) (es:List Value):Prop:=es.length=cs.length /\ ∀ j,j<cs.length->gn S w (bw cs j) (es.getD j undef)
theorem jr :e8 S w [] []:=⟨rfl,fun j ad=>by simp at ad⟩
theorem bD {c:V} (h:gn S w c u) (k:e8 S w cs es):e8 S w (c :: cs) (u :: es):=by
 refine ⟨by simp[k.1],fun j ad=>?_⟩
 cases j with
 | zero=>simpa[bw] using h
 | succ j=>have:=k.2 j kY;simpa[bw] using this
theorem sO (hu:P.underlying t=some (.int .u8)) (es:List Value) (h:Cells P W t es):∃ x,e8 S W (bm x) es/\True:=by
 obtain ⟨n,rfl,hw⟩:=h.dR hu;have:=bounds_u8 hw;refine ⟨UInt8.ofNat n.toNat,bD ?_ jr,trivial⟩;have e:((UInt8.ofNat n.toNat).toNat:Int)=n:=by
  rw[UInt8.toNat_ofNat'];omega
 rw[e];exact .lit _ rfl
theorem Jt (hu:P.underlying t=some (.int .i64)) (es:List Value) (h:Cells P W t es):∃ x,e8 S W (encI x) es/\aE x:=by
 obtain ⟨n,rfl,hw⟩:=h.dR hu;exact⟨n,bD (.lit _ rfl) jr,en hw⟩
theorem iu {α:Type} {e:TypeId} {v:Value} {enc:α->List V} {wf:α->Prop} {size bytes:Nat} (hu:P.underlying t=some (.slice e)) (aw:P.cellsOf e=size) (hb:P.bytesOf e=bytes) (vH:0<size) (ap:∀ es,Cells P W e es -> ∃ x,e8 (fun b=>b<W.heap.size) W (enc x) es/\wf x) (h:Cells P W t [v]) :
  ∃ l:List α,gn (fun b=>b<W.heap.size) W (.ro (l.map enc)) v/\l.length * bytes<=140737488351232 /\ ∀ y,y ∈ l->wf y:=by
 rcases h.w6 hu with ai | ⟨a,len,cap,ak,ao,Bf,hc,he⟩
 ·injection ai with ai _;subst ai;exact⟨[],.ro [] none 0 1 0 0 (fun _ _=>undef) (e4 _) qN (by omega) (fun h=>by simp at h) (fun i hi=>by simp at hi) (fun i j hi=>by simp at hi) (fun i j hi=>by simp at hi),by simp,fun y aj=>by simp at aj⟩
 ·injection ak with ak _;subst ak;rw[aw] at he;rw[hb] at hc;have U:∀ i,i<len -> ∃ x es,es.length=size/\(∀ j,j<size->W.cell? ((a.add (i * size)).add j)=es[j]?)/\e8 (fun b=>b<W.heap.size) W (enc x) es/\wf x:=fun i hi=>by
   obtain ⟨es,J,aa,az⟩:=he i (by omega);obtain ⟨x,U,hw⟩:=ap es az;exact⟨x,es,J,aa,U,hw⟩
  have sd:∃ l:List α,l.length=len/\(∀ i (h:i<l.length),∃ es,es.length=size/\(∀ j,j<size->W.cell? ((a.add (i * size)).add j)=es[j]?)/\e8 (fun b=>b<W.heap.size) W (enc l[i]) es) /\ ∀ y,y ∈ l->wf y:=by
   clear ao hc he h;induction len with
   | zero=>exact⟨[],rfl,fun i hi=>by simp at hi,fun y aj=>by simp at aj⟩
   | succ n bU=>
    obtain ⟨l,ao,hU,iZ⟩:=bU (fun i hi=>U i (by omega));obtain ⟨x,es,J,aa,az,bk⟩:=U n (by omega);refine ⟨l++[x],by simp[ao],fun i hi=>?_,fun y aj=>?_⟩
    ·simp at hi;by_cases cf:i<l.length
     ·rw[List.getElem_append_left cf];exact hU i cf
     ·have:i=n:=by omega
      subst this;refine ⟨es,J,aa,?_⟩;rw[List.getElem_append_right (by omega)];simpa[ao] using az
    ·simp at aj;rcases aj with aj|rfl
     ·exact iZ y aj
     ·exact bk
  obtain ⟨l,hK,hU,iZ⟩:=sd;subst hK;have Ce:l.length * bytes<=reachBytes:=qJ (kk _ ao) hc;refine ⟨l,?_,by unfold reachBytes at Ce;omega,iZ⟩;by_cases ai:0<l.length
  ·obtain ⟨Yr,g1,g2,_⟩:=hU 0 ai;have gv:a.spot=none:=by
    have g:=g2 0 vH;rw[eB (by omega)] at g;have:=World.cell?_spot g;simpa[Addr.add] using this
   obtain ⟨b,off,spot⟩:=a;simp only at gv;subst gv;simp only[sz] at hU g2;have bW:b<W.heap.size:=by
    have g:=g2 0 vH;rw[eB (by omega)] at g;exact qK g
   have cZ:∀ i (h:i<l.length),(enc l[i]).length=size:=fun i hi=>by
    obtain ⟨es,aL,aS,bi⟩:=hU i hi;rw[<- bi.1,aL]
   have Bg:∀ i (h:i<l.length),bb (l.map enc) i=enc l[i]:=fun i hi=>by
    unfold bb;rw[bZ,qn,eB hi];rfl
   have:gn (fun b=>b<W.heap.size) W (.ro (l.map enc)) (.slice (some ⟨b,off,none⟩) (l.map enc).length cap):=by
    refine .ro _ _ cap size b off (fun i j=>(W.cell? ⟨b,off+i * size+j,none⟩).getD undef) (by simpa using ao) Bf vH (fun _=>⟨rfl,bW⟩) (fun i hi=>?_) (fun i j hi ad=>?_) (fun i j hi ad=>?_)
    ·rw[bY] at hi;rw[Bg i hi];exact cZ i hi
    ·rw[bY] at hi;obtain ⟨es,aL,aS,bi⟩:=hU i hi;rw[aS j ad,eB (by omega)];rfl
    ·rw[bY] at hi;obtain ⟨es,aL,aS,bi⟩:=hU i hi;rw[Bg i hi,aS j ad];have:=bi.2 j (by rw[cZ i hi];exact ad);rwa [bZ] at this
   rwa [bY] at this
  ·have hn:l=[]:=pj (by omega);subst hn;exact .ro [] (some a) cap 1 0 0 (fun _ _=>undef) (by simp) Bf (by omega) (fun h=>by simp at h) (fun i hi=>by simp at hi) (fun i j hi=>by simp at hi) (fun i j hi=>by simp at hi)
def Bh (W:World) (v:Value) (x:V):Prop:=cT (fun _=>none) (fun b=>b<W.heap.size) W x v
theorem PV (h:u.oneCell' = true):Bh W u (.lit u):=.pure (.lit _ h)
theorem XE {l:List (List V)} (h:gn (fun b=>b<W.heap.size) W (.ro l) u):Bh W u (.ro l):=.pure h
theorem XD (h:e8 (fun b=>b<W.heap.size) W cs es):Bh W (.agg es.toArray) (.agg cs):=
 .agg (by simp[h.1]) (fun j ad=>by
  have:=h.2 j ad;have e:es.toArray.getD j undef=es.getD j undef:=by rw[gg,bZ];simp
  rw[e];exact .pure this)
inductive xR (W:World):List V->List Value->Prop
 | nil:xR W [] []
 | cons {x:V} {v:Value} {xs:List V} {vs:List Value} (h:Bh W v x) (aw:xR W xs vs):xR W (x :: xs) (v :: vs)
theorem xR.spec (h:xR W xs vs):vs.length=xs.length /\ ∀ j,j<xs.length->Bh W (vs.getD j undef) (bw xs j):=by
 induction h with
 | nil=>exact⟨rfl,fun j ad=>by simp at ad⟩
 | cons h aw bU=>
  refine ⟨by simp[bU.1],fun j ad=>?_⟩
  cases j with
  | zero=>simpa[bw] using h
  | succ j=>have:=bU.2 j kY;simpa[bw] using this
theorem XC {f:FuncId} (hf:Fn P f xs (ab true)) (br:xR W xs vs):Calls P f vs.toArray W fun e pI=>e = .returned (.bool true)/\Below W.heap.size W pI:=by
 obtain ⟨J,aa⟩:=br.spec;refine (hf.2 W (fun _=>True) vs.toArray (by simpa using J) (fun _ _=>trivial) (fun j ad=>?_)).mono ?_
 ·have e:vs.toArray.getD j undef=vs.getD j undef:=by rw[gg,bZ];simp
  rw[e];exact(aa j ad).mono (dl.refl _ _) (fun _ _ _=>trivial) (fun _ _ h=>h)
 ·rintro e aF ⟨v,rfl,hb,ak⟩;rw[fO ak];exact⟨rfl,hb⟩
end Go.Proofs.YtendheafcbickaaGreat
namespace Go.Proofs.YtendheafcbickaaGreat
variable {W:World} {v:Value} {α:Type}
open Go.ChangeShapes Go.WideShapes Go.ChangeAt Go.RowKit Go.Deep
theorem cd {P:Program} {T:TypeId} {cs out:List Value} {k:Nat} (n:Nat) (q:Cells P W T ((cs.drop k).take (P.cellsOf T))) (hn:P.cellsOf T=n:=by kernel_rfl) (he:(cs.drop k).take n=out:=by rfl):Cells P W T out:=by rw[hn,he] at q;exact q
theorem eC {f:α->Value} {p:α->Prop} (h:∃ x,[v]=[f x]/\p x):∃ x,v=f x/\p x:=by obtain ⟨x,e,w⟩:=h;injection e with e _;exact⟨x,e,w⟩
theorem lO {f:α->Value} (h:∃ x,[v]=[f x]):∃ x,v=f x:=by obtain ⟨x,e⟩:=h;injection e with e _;exact⟨x,e⟩
def Ju (S:Nat->Prop) (w:World) (cs:List Value) (x:aK):Prop:=e8 S w (aB x) cs/\fB x
set_option maxRecDepth 100000 in
theorem sP (cs:List Value) (h:Cells Tryz.prog W 146 cs):∃ x,Ju (fun b=>b<W.heap.size) W cs x:=by
 obtain ⟨ao,hf⟩:=h.jn Tryz.underlying146;rw[show Tryz.prog.cellsOf 146 = 2 from by kernel_rfl] at ao
 match cs,ao,hf with
 | [dz,b6],_,hf=>
  have g0:Cells Tryz.prog W 3 [dz]:=cd 1 (hf 0 _ rfl);have g1:Cells Tryz.prog W 3 [b6]:=cd 1 (hf 1 _ rfl);obtain ⟨eZ,rfl,w0⟩:=eC (g0.dR Tryz.underlying3);obtain ⟨ew,rfl,c4⟩:=eC (g1.dR Tryz.underlying3);exact⟨⟨eZ,ew⟩,bD (.lit _ rfl) (bD (.lit _ rfl) (jr)),⟨en w0,en c4⟩⟩
def Jv (S:Nat->Prop) (w:World) (cs:List Value) (x:hz):Prop:=e8 S w (pG x) cs/\oe x
set_option maxRecDepth 100000 in
theorem Bi (cs:List Value) (h:Cells Tryz.prog W 47 cs):∃ x,Jv (fun b=>b<W.heap.size) W cs x:=by
 obtain ⟨ao,hf⟩:=h.jn Tryz.underlying47;rw[show Tryz.prog.cellsOf 47 = 2 from by kernel_rfl] at ao
 match cs,ao,hf with
 | [dz,b6],_,hf=>
  have g0:Cells Tryz.prog W 3 [dz]:=cd 1 (hf 0 _ rfl);have g1:Cells Tryz.prog W 3 [b6]:=cd 1 (hf 1 _ rfl);obtain ⟨eZ,rfl,w0⟩:=eC (g0.dR Tryz.underlying3);obtain ⟨ew,rfl,c4⟩:=eC (g1.dR Tryz.underlying3);exact⟨⟨eZ,ew⟩,bD (.lit _ rfl) (bD (.lit _ rfl) (jr)),⟨en w0,en c4⟩⟩
def Jw (S:Nat->Prop) (w:World) (cs:List Value) (x:gA):Prop:=e8 S w (nz x) cs/\h2 x
set_option maxRecDepth 100000 in
theorem Jx (cs:List Value) (h:Cells Tryz.prog W 45 cs):∃ x,Jw (fun b=>b<W.heap.size) W cs x:=by
 obtain ⟨ao,hf⟩:=h.jn Tryz.underlying45;rw[show Tryz.prog.cellsOf 45 = 4 from by kernel_rfl] at ao
 match cs,ao,hf with
 | [dz,b6,cU,ek],_,hf=>
  have g0:Cells Tryz.prog W 3 [dz]:=cd 1 (hf 0 _ rfl);have g1:Cells Tryz.prog W 3 [b6]:=cd 1 (hf 1 _ rfl);have g2:Cells Tryz.prog W 3 [cU]:=cd 1 (hf 2 _ rfl);have g3:Cells Tryz.prog W 3 [ek]:=cd 1 (hf 3 _ rfl);obtain ⟨eZ,rfl,w0⟩:=eC (g0.dR Tryz.underlying3);obtain ⟨ew,rfl,c4⟩:=eC (g1.dR Tryz.underlying3);obtain ⟨er,rfl,du⟩:=eC (g2.dR Tryz.underlying3);obtain ⟨eK,rfl,w3⟩:=eC (g3.dR Tryz.underlying3);exact⟨⟨eZ,ew,er,eK⟩,bD (.lit _ rfl) (bD (.lit _ rfl) (bD (.lit _ rfl) (bD (.lit _ rfl) (jr)))),⟨en w0,en c4,en du,en w3⟩⟩
def Ys (S:Nat->Prop) (w:World) (cs:List Value) (x:rm):Prop:=e8 S w (Qg x) cs/\nF x
def Jy (S:Nat->Prop) (w:World) (cs:List Value) (x:bA):Prop:=e8 S w (b5 x) cs/\iY x
set_option maxRecDepth 100000 in
theorem Jz (cs:List Value) (h:Cells Tryz.prog W 235 cs):∃ x,Jy (fun b=>b<W.heap.size) W cs x:=by
 obtain ⟨ao,hf⟩:=h.jn Tryz.underlying235;rw[show Tryz.prog.cellsOf 235 = 2 from by kernel_rfl] at ao
 match cs,ao,hf with
 | [dz,b6],_,hf=>
  have g0:Cells Tryz.prog W 3 [dz]:=cd 1 (hf 0 _ rfl);have g1:Cells Tryz.prog W 29 [b6]:=cd 1 (hf 1 _ rfl);obtain ⟨eZ,rfl,w0⟩:=eC (g0.dR Tryz.underlying3);obtain ⟨ew,dg,c4,v1⟩:=iu (enc:=bm) (wf:=fun _=>True) (size:=1) (bytes:=1) Tryz.underlying29 bR bR (by decide) (fun es h=>sO Tryz.underlying5 es h) g1;exact⟨⟨eZ,ew⟩,bD (.lit _ rfl) (bD (dg) (jr)),⟨en w0,c4⟩⟩
def JA (S:Nat->Prop) (w:World) (cs:List Value) (x:dQ):Prop:=e8 S w (e5 x) cs/\ga x
set_option maxRecDepth 100000 in
theorem JB (cs:List Value) (h:Cells Tryz.prog W 130 cs):∃ x,JA (fun b=>b<W.heap.size) W cs x:=by
 obtain ⟨ao,hf⟩:=h.jn Tryz.underlying130;rw[show Tryz.prog.cellsOf 130 = 4 from by kernel_rfl] at ao
 match cs,ao,hf with
 | [dz,b6,cU,ek],_,hf=>
  have g0:Cells Tryz.prog W 3 [dz]:=cd 1 (hf 0 _ rfl);have g1:Cells Tryz.prog W 128 [b6]:=cd 1 (hf 1 _ rfl);have g2:Cells Tryz.prog W 3 [cU]:=cd 1 (hf 2 _ rfl);have g3:Cells Tryz.prog W 3 [ek]:=cd 1 (hf 3 _ rfl);obtain ⟨eZ,rfl,w0⟩:=eC (g0.dR Tryz.underlying3);obtain ⟨ew,dg,c4,v1⟩:=iu (enc:=b5) (wf:=iY) (size:=2) (bytes:=32) Tryz.underlying128 bR bR (by decide) (fun es h=>Jz es h) g1;obtain ⟨er,rfl,du⟩:=eC (g2.dR Tryz.underlying3);obtain ⟨eK,rfl,w3⟩:=eC (g3.dR Tryz.underlying3);exact⟨⟨eZ,ew,er,eK⟩,bD (.lit _ rfl) (bD (dg) (bD (.lit _ rfl) (bD (.lit _ rfl) (jr)))),⟨en w0,c4,v1,en du,en w3⟩⟩
def JC (S:Nat->Prop) (w:World) (cs:List Value) (x:ee):Prop:=e8 S w (fc x) cs/\hg x
set_option maxRecDepth 100000 in
theorem JD (cs:List Value) (h:Cells Tryz.prog W 132 cs):∃ x,JC (fun b=>b<W.heap.size) W cs x:=by
 obtain ⟨ao,hf⟩:=h.jn Tryz.underlying132;rw[show Tryz.prog.cellsOf 132 = 8 from by kernel_rfl] at ao
 match cs,ao,hf with
 | [dz,b6,cU,ek,gp,jE,lr,qS],_,hf=>
  have g0:Cells Tryz.prog W 29 [dz]:=cd 1 (hf 0 _ rfl);have g1:Cells Tryz.prog W 4 [b6]:=cd 1 (hf 1 _ rfl);have g2:Cells Tryz.prog W 3 [cU]:=cd 1 (hf 2 _ rfl);have g3:Cells Tryz.prog W 3 [ek]:=cd 1 (hf 3 _ rfl);have g4:Cells Tryz.prog W 40 [gp]:=cd 1 (hf 4 _ rfl);have g5:Cells Tryz.prog W 40 [jE]:=cd 1 (hf 5 _ rfl);have g6:Cells Tryz.prog W 4 [lr]:=cd 1 (hf 6 _ rfl);have g7:Cells Tryz.prog W 4 [qS]:=cd 1 (hf 7 _ rfl);obtain ⟨eZ,JE,w0,v0⟩:=iu (enc:=bm) (wf:=fun _=>True) (size:=1) (bytes:=1) Tryz.underlying29 bR bR (by decide) (fun es h=>sO Tryz.underlying5 es h) g0;obtain ⟨ew,rfl⟩:=lO (g1.kT Tryz.underlying4);obtain ⟨er,rfl,du⟩:=eC (g2.dR Tryz.underlying3);obtain ⟨eK,rfl,w3⟩:=eC (g3.dR Tryz.underlying3);obtain ⟨jS,ka,e9,v4⟩:=iu (enc:=aB) (wf:=fB) (size:=2) (bytes:=16) Tryz.underlying40 bR bR (by decide) (fun es h=>sP es h) g4;obtain ⟨kP,hj,fa,v5⟩:=iu (enc:=aB) (wf:=fB) (size:=2) (bytes:=16) Tryz.underlying40 bR bR (by decide) (fun es h=>sP es h) g5;obtain ⟨nu,rfl⟩:=lO (g6.kT Tryz.underlying4);obtain ⟨vI,rfl⟩:=lO (g7.kT Tryz.underlying4);exact⟨⟨eZ,ew,er,eK,jS,kP,nu,vI⟩,bD (JE) (bD (.lit _ rfl) (bD (.lit _ rfl) (bD (.lit _ rfl) (bD (ka) (bD (hj) (bD (.lit _ rfl) (bD (.lit _ rfl) (jr)))))))),⟨w0,en du,en w3,e9,v4,fa,v5⟩⟩
def JF (S:Nat->Prop) (w:World) (cs:List Value) (x:bo):Prop:=e8 S w (aO x) cs/\dx x
set_option maxRecDepth 100000 in
theorem xN (cs:List Value) (h:Cells Tryz.prog W 111 cs):∃ x,JF (fun b=>b<W.heap.size) W cs x:=by
 obtain ⟨ao,hf⟩:=h.jn Tryz.underlying111;rw[show Tryz.prog.cellsOf 111 = 7 from by kernel_rfl] at ao
 match cs,ao,hf with
 | [dz,b6,cU,ek,gp,jE,lr],_,hf=>
  have g0:Cells Tryz.prog W 3 [dz]:=cd 1 (hf 0 _ rfl);have g1:Cells Tryz.prog W 3 [b6]:=cd 1 (hf 1 _ rfl);have g2:Cells Tryz.prog W 3 [cU]:=cd 1 (hf 2 _ rfl);have g3:Cells Tryz.prog W 4 [ek]:=cd 1 (hf 3 _ rfl);have g4:Cells Tryz.prog W 3 [gp]:=cd 1 (hf 4 _ rfl);have g5:Cells Tryz.prog W 40 [jE]:=cd 1 (hf 5 _ rfl);have g6:Cells Tryz.prog W 29 [lr]:=cd 1 (hf 6 _ rfl);obtain ⟨eZ,rfl,w0⟩:=eC (g0.dR Tryz.underlying3);obtain ⟨ew,rfl,c4⟩:=eC (g1.dR Tryz.underlying3);obtain ⟨er,rfl,du⟩:=eC (g2.dR Tryz.underlying3);obtain ⟨eK,rfl⟩:=lO (g3.kT Tryz.underlying4);obtain ⟨jS,rfl,e9⟩:=eC (g4.dR Tryz.underlying3);obtain ⟨kP,hj,fa,v5⟩:=iu (enc:=aB) (wf:=fB) (size:=2) (bytes:=16) Tryz.underlying40 bR bR (by decide) (fun es h=>sP es h) g5;obtain ⟨nu,tp,gy,v6⟩:=iu (enc:=bm) (wf:=fun _=>True) (size:=1) (bytes:=1) Tryz.underlying29 bR bR (by decide) (fun es h=>sO Tryz.underlying5 es h) g6;exact⟨⟨eZ,ew,er,eK,jS,kP,nu⟩,bD (.lit _ rfl) (bD (.lit _ rfl) (bD (.lit _ rfl) (bD (.lit _ rfl) (bD (.lit _ rfl) (bD (hj) (bD (tp) (jr))))))),⟨en w0,en c4,en du,en e9,fa,v5,gy⟩⟩
def Yt (S:Nat->Prop) (w:World) (cs:List Value) (x:lQ):Prop:=e8 S w (Jq x) cs/\HV x
def JG (S:Nat->Prop) (w:World) (cs:List Value) (x:eN):Prop:=e8 S w (bC x) cs/\ji x
set_option maxRecDepth 100000 in
theorem JH (cs:List Value) (h:Cells Tryz.prog W 198 cs):∃ x,JG (fun b=>b<W.heap.size) W cs x:=by
 obtain ⟨ao,hf⟩:=h.jn Tryz.underlying198;rw[show Tryz.prog.cellsOf 198 = 4 from by kernel_rfl] at ao
 match cs,ao,hf with
 | [dz,b6,cU,ek],_,hf=>
  have g0:Cells Tryz.prog W 3 [dz]:=cd 1 (hf 0 _ rfl);have g1:Cells Tryz.prog W 3 [b6]:=cd 1 (hf 1 _ rfl);have g2:Cells Tryz.prog W 3 [cU]:=cd 1 (hf 2 _ rfl);have g3:Cells Tryz.prog W 49 [ek]:=cd 1 (hf 3 _ rfl);obtain ⟨eZ,rfl,w0⟩:=eC (g0.dR Tryz.underlying3);obtain ⟨ew,rfl,c4⟩:=eC (g1.dR Tryz.underlying3);obtain ⟨er,rfl,du⟩:=eC (g2.dR Tryz.underlying3);obtain ⟨eK,gq,w3,v3⟩:=iu (enc:=aO) (wf:=dx) (size:=7) (bytes:=88) Tryz.underlying49 bR bR (by decide) (fun es h=>xN es h) g3;exact⟨⟨eZ,ew,er,eK⟩,bD (.lit _ rfl) (bD (.lit _ rfl) (bD (.lit _ rfl) (bD (gq) (jr)))),⟨en w0,en c4,en du,w3,v3⟩⟩
def JI (S:Nat->Prop) (w:World) (cs:List Value) (x:ey):Prop:=e8 S w (iB x) cs/\gM x
set_option maxRecDepth 100000 in
theorem JJ (cs:List Value) (h:Cells Tryz.prog W 43 cs):∃ x,JI (fun b=>b<W.heap.size) W cs x:=by
 obtain ⟨ao,hf⟩:=h.jn Tryz.underlying43;rw[show Tryz.prog.cellsOf 43 = 5 from by kernel_rfl] at ao
 match cs,ao,hf with
 | [dz,b6,cU,ek,gp],_,hf=>
  have g0:Cells Tryz.prog W 3 [dz]:=cd 1 (hf 0 _ rfl);have g1:Cells Tryz.prog W 39 [b6]:=cd 1 (hf 1 _ rfl);have g2:Cells Tryz.prog W 3 [cU]:=cd 1 (hf 2 _ rfl);have g3:Cells Tryz.prog W 40 [ek]:=cd 1 (hf 3 _ rfl);have g4:Cells Tryz.prog W 41 [gp]:=cd 1 (hf 4 _ rfl);obtain ⟨eZ,rfl,w0⟩:=eC (g0.dR Tryz.underlying3);obtain ⟨ew,dg,c4,v1⟩:=iu (enc:=bC) (wf:=ji) (size:=4) (bytes:=48) Tryz.underlying39 bR bR (by decide) (fun es h=>JH es h) g1;obtain ⟨er,rfl,du⟩:=eC (g2.dR Tryz.underlying3);obtain ⟨eK,gq,w3,v3⟩:=iu (enc:=aB) (wf:=fB) (size:=2) (bytes:=16) Tryz.underlying40 bR bR (by decide) (fun es h=>sP es h) g3;obtain ⟨jS,ka,e9,v4⟩:=iu (enc:=encI) (wf:=aE) (size:=1) (bytes:=8) Tryz.underlying41 bR bR (by decide) (fun es h=>Jt Tryz.underlying3 es h) g4;exact⟨⟨eZ,ew,er,eK,jS⟩,bD (.lit _ rfl) (bD (dg) (bD (.lit _ rfl) (bD (gq) (bD (ka) (jr))))),⟨en w0,c4,v1,en du,w3,v3,e9,v4⟩⟩
def JK (S:Nat->Prop) (w:World) (cs:List Value) (x:cS):Prop:=e8 S w (eo x) cs/\jK x
set_option maxRecDepth 100000 in
theorem JL (cs:List Value) (h:Cells Tryz.prog W 134 cs):∃ x,JK (fun b=>b<W.heap.size) W cs x:=by
 obtain ⟨ao,hf⟩:=h.jn Tryz.underlying134;rw[show Tryz.prog.cellsOf 134 = 16 from by kernel_rfl] at ao
 match cs,ao,hf with
 | [dz,b6,cU,ek,gp,jE,lr,qS,vJ,vK,vL,vM,vN,vO,vP,vQ],_,hf=>
  have g0:Cells Tryz.prog W 3 [dz]:=cd 1 (hf 0 _ rfl);have g1:Cells Tryz.prog W 130 [b6,cU,ek,gp]:=cd 4 (hf 1 _ rfl);have g2:Cells Tryz.prog W 29 [jE]:=cd 1 (hf 2 _ rfl);have g3:Cells Tryz.prog W 4 [lr]:=cd 1 (hf 3 _ rfl);have g4:Cells Tryz.prog W 4 [qS]:=cd 1 (hf 4 _ rfl);have g5:Cells Tryz.prog W 132 [vJ,vK,vL,vM,vN,vO,vP,vQ]:=cd 8 (hf 5 _ rfl);obtain ⟨eZ,rfl,w0⟩:=eC (g0.dR Tryz.underlying3);obtain ⟨ew,⟨fv,dg⟩,c4⟩:=JB _ g1;obtain ⟨er,db,du,v2⟩:=iu (enc:=bm) (wf:=fun _=>True) (size:=1) (bytes:=1) Tryz.underlying29 bR bR (by decide) (fun es h=>sO Tryz.underlying5 es h) g2;obtain ⟨eK,rfl⟩:=lO (g3.kT Tryz.underlying4);obtain ⟨jS,rfl⟩:=lO (g4.kT Tryz.underlying4);obtain ⟨kP,⟨s3,hj⟩,fa⟩:=JD _ g5;exact⟨⟨eZ,ew,er,eK,jS,kP⟩,bD (.lit _ rfl) (bD (dg 0 (by show 0<4;decide)) (bD (dg 1 (by show 1<4;decide)) (bD (dg 2 (by show 2<4;decide)) (bD (dg 3 (by show 3<4;decide)) (bD (db) (bD (.lit _ rfl) (bD (.lit _ rfl) (bD (hj 0 (by show 0<8;decide)) (bD (hj 1 (by show 1<8;decide)) (bD (hj 2 (by show 2<8;decide)) (bD (hj 3 (by show 3<8;decide)) (bD (hj 4 (by show 4<8;decide)) (bD (hj 5 (by show 5<8;decide)) (bD (hj 6 (by show 6<8;decide)) (bD (hj 7 (by show 7<8;decide)) (jr)))))))))))))))),⟨en w0,c4,du,fa⟩⟩
def JM (S:Nat->Prop) (w:World) (cs:List Value) (x:aG):Prop:=e8 S w (cj x) cs/\fw x
set_option maxRecDepth 100000 in
theorem PU (cs:List Value) (h:Cells Tryz.prog W 51 cs):∃ x,JM (fun b=>b<W.heap.size) W cs x:=by
 obtain ⟨ao,hf⟩:=h.jn Tryz.underlying51;rw[show Tryz.prog.cellsOf 51 = 24 from by kernel_rfl] at ao
 match cs,ao,hf with
 | [dz,b6,cU,ek,gp,jE,lr,qS,vJ,vK,vL,vM,vN,vO,vP,vQ,JN,JO,JP,JQ,JR,JS,JT,JU],_,hf=>
  have g0:Cells Tryz.prog W 4 [dz]:=cd 1 (hf 0 _ rfl);have g1:Cells Tryz.prog W 43 [b6,cU,ek,gp,jE]:=cd 5 (hf 1 _ rfl);have g2:Cells Tryz.prog W 45 [lr,qS,vJ,vK]:=cd 4 (hf 2 _ rfl);have g3:Cells Tryz.prog W 47 [vL,vM]:=cd 2 (hf 3 _ rfl);have g4:Cells Tryz.prog W 47 [vN,vO]:=cd 2 (hf 4 _ rfl);have g5:Cells Tryz.prog W 3 [vP]:=cd 1 (hf 5 _ rfl);have g6:Cells Tryz.prog W 3 [vQ]:=cd 1 (hf 6 _ rfl);have g7:Cells Tryz.prog W 3 [JN]:=cd 1 (hf 7 _ rfl);have g8:Cells Tryz.prog W 48 [JO]:=cd 1 (hf 8 _ rfl);have g9:Cells Tryz.prog W 4 [JP]:=cd 1 (hf 9 _ rfl);have g10:Cells Tryz.prog W 49 [JQ]:=cd 1 (hf 10 _ rfl);have g11:Cells Tryz.prog W 3 [JR]:=cd 1 (hf 11 _ rfl);have g12:Cells Tryz.prog W 3 [JS]:=cd 1 (hf 12 _ rfl);have g13:Cells Tryz.prog W 4 [JT]:=cd 1 (hf 13 _ rfl);have g14:Cells Tryz.prog W 3 [JU]:=cd 1 (hf 14 _ rfl);obtain ⟨eZ,rfl⟩:=lO (g0.kT Tryz.underlying4);obtain ⟨ew,⟨fv,dg⟩,c4⟩:=JJ _ g1;obtain ⟨er,⟨gz,db⟩,du⟩:=Jx _ g2;obtain ⟨eK,⟨mG,gq⟩,w3⟩:=Bi _ g3;obtain ⟨jS,⟨eg,ka⟩,e9⟩:=Bi _ g4;obtain ⟨kP,rfl,fa⟩:=eC (g5.dR Tryz.underlying3);obtain ⟨nu,rfl,gy⟩:=eC (g6.dR Tryz.underlying3);obtain ⟨vI,rfl,hL⟩:=eC (g7.dR Tryz.underlying3);obtain ⟨JV,JW,ki,Dx⟩:=iu (enc:=eo) (wf:=jK) (size:=16) (bytes:=192) Tryz.underlying48 bR bR (by decide) (fun es h=>JL es h) g8;obtain ⟨JX,rfl⟩:=lO (g9.kT Tryz.underlying4);obtain ⟨JY,JZ,kj,v10⟩:=iu (enc:=aO) (wf:=dx) (size:=7) (bytes:=88) Tryz.underlying49 bR bR (by decide) (fun es h=>xN es h) g10;obtain ⟨J0,rfl,lW⟩:=eC (g11.dR Tryz.underlying3);obtain ⟨J1,rfl,lX⟩:=eC (g12.dR Tryz.underlying3);obtain ⟨J2,rfl⟩:=lO (g13.kT Tryz.underlying4);obtain ⟨J3,rfl,J4⟩:=eC (g14.dR Tryz.underlying3);exact⟨⟨eZ,ew,er,eK,jS,kP,nu,vI,JV,JX,JY,J0,J1,J2,J3⟩,bD (.lit _ rfl) (bD (dg 0 (by show 0<5;decide)) (bD (dg 1 (by show 1<5;decide)) (bD (dg 2 (by show 2<5;decide)) (bD (dg 3 (by show 3<5;decide)) (bD (dg 4 (by show 4<5;decide)) (bD (db 0 (by show 0<4;decide)) (bD (db 1 (by show 1<4;decide)) (bD (db 2 (by show 2<4;decide)) (bD (db 3 (by show 3<4;decide)) (bD (gq 0 (by show 0<2;decide)) (bD (gq 1 (by show 1<2;decide)) (bD (ka 0 (by show 0<2;decide)) (bD (ka 1 (by show 1<2;decide)) (bD (.lit _ rfl) (bD (.lit _ rfl) (bD (.lit _ rfl) (bD (JW) (bD (.lit _ rfl) (bD (JZ) (bD (.lit _ rfl) (bD (.lit _ rfl) (bD (.lit _ rfl) (bD (.lit _ rfl) (jr)))))))))))))))))))))))),⟨c4,du,w3,e9,en fa,en gy,en hL,ki,Dx,kj,v10,en lW,en lX,en J4⟩⟩
def Yu (S:Nat->Prop) (w:World) (cs:List Value) (x:tB):Prop:=e8 S w (Ew x) cs/\vf x
def Yv (S:Nat->Prop) (w:World) (cs:List Value) (x:vh):Prop:=e8 S w (Qi x) cs/\zn x
def Yw (S:Nat->Prop) (w:World) (cs:List Value) (x:tD):Prop:=e8 S w (Jr x) cs/\xn x
def Yx (S:Nat->Prop) (w:World) (cs:List Value) (x:xo):Prop:=e8 S w (Qj x) cs/\HX x
def Yy (S:Nat->Prop) (w:World) (cs:List Value) (x:vi):Prop:=e8 S w (Js x) cs/\zo x
end Go.Proofs.YtendheafcbickaaGreat
namespace Go.Proofs.YtendheafcbickaaGreat.bT
variable {P:Program} {S:Nat->Prop} {W:World} {t:TypeId}
open Go.ChangeShapes Go.WideShapes Go.ChangeAt Go.RowKit Go.Deep
theorem sO (hu:P.underlying t=some (.int .u8)) (es:List Value) (h:Cells P W t es):∃ x,e8 S W (bm x) es/\True:=by
 obtain ⟨n,rfl,hw⟩:=h.dR hu;have:=bounds_u8 hw;refine ⟨UInt8.ofNat n.toNat,bD ?_ jr,trivial⟩;have e:((UInt8.ofNat n.toNat).toNat:Int)=n:=by
  rw[UInt8.toNat_ofNat'];omega
 rw[e];exact .lit _ rfl
theorem Jt (hu:P.underlying t=some (.int .i64)) (es:List Value) (h:Cells P W t es):∃ x,e8 S W (encI x) es/\aE x:=by
 obtain ⟨n,rfl,hw⟩:=h.dR hu;exact⟨n,bD (.lit _ rfl) jr,en hw⟩
theorem iu {α:Type} {e:TypeId} {v:Value} {enc:α->List V} {wf:α->Prop} {size bytes:Nat} (hu:P.underlying t=some (.slice e)) (aw:P.cellsOf e=size) (hb:P.bytesOf e=bytes) (vH:0<size) (ap:∀ es,Cells P W e es -> ∃ x,e8 (fun b=>b<W.heap.size) W (enc x) es/\wf x) (h:Cells P W t [v]) :
  ∃ l:List α,gn (fun b=>b<W.heap.size) W (.ro (l.map enc)) v/\l.length * bytes<=bytes * 1048576 /\ ∀ y,y ∈ l->wf y:=by
 rcases h.w6 hu with ai | ⟨a,len,cap,ak,ao,Bf,hc,he⟩
 ·injection ai with ai _;subst ai;exact⟨[],.ro [] none 0 1 0 0 (fun _ _=>undef) (e4 _) qN (by omega) (fun h=>by simp at h) (fun i hi=>by simp at hi) (fun i j hi=>by simp at hi) (fun i j hi=>by simp at hi),by simp,fun y aj=>by simp at aj⟩
 ·injection ak with ak _;subst ak;rw[aw] at he;have U:∀ i,i<len -> ∃ x es,es.length=size/\(∀ j,j<size->W.cell? ((a.add (i * size)).add j)=es[j]?)/\e8 (fun b=>b<W.heap.size) W (enc x) es/\wf x:=fun i hi=>by
   obtain ⟨es,J,aa,az⟩:=he i (by omega);obtain ⟨x,U,hw⟩:=ap es az;exact⟨x,es,J,aa,U,hw⟩
  have sd:∃ l:List α,l.length=len/\(∀ i (h:i<l.length),∃ es,es.length=size/\(∀ j,j<size->W.cell? ((a.add (i * size)).add j)=es[j]?)/\e8 (fun b=>b<W.heap.size) W (enc l[i]) es) /\ ∀ y,y ∈ l->wf y:=by
   clear ao hc he h;induction len with
   | zero=>exact⟨[],rfl,fun i hi=>by simp at hi,fun y aj=>by simp at aj⟩
   | succ n bU=>
    obtain ⟨l,ao,hU,iZ⟩:=bU (fun i hi=>U i (by omega));obtain ⟨x,es,J,aa,az,bk⟩:=U n (by omega);refine ⟨l++[x],by simp[ao],fun i hi=>?_,fun y aj=>?_⟩
    ·simp at hi;by_cases cf:i<l.length
     ·rw[List.getElem_append_left cf];exact hU i cf
     ·have:i=n:=by omega
      subst this;refine ⟨es,J,aa,?_⟩;rw[List.getElem_append_right (by omega)];simpa[ao] using az
    ·simp at aj;rcases aj with aj|rfl
     ·exact iZ y aj
     ·exact bk
  obtain ⟨l,hK,hU,iZ⟩:=sd;subst hK;have Ce:l.length * bytes<=bytes * 1048576:=by rw[Nat.mul_comm bytes];exact kk _ (qJ ao hc)
  refine ⟨l,?_,Ce,iZ⟩;by_cases ai:0<l.length
  ·obtain ⟨Yr,g1,g2,_⟩:=hU 0 ai;have gv:a.spot=none:=by
    have g:=g2 0 vH;rw[eB (by omega)] at g;have:=World.cell?_spot g;simpa[Addr.add] using this
   obtain ⟨b,off,spot⟩:=a;simp only at gv;subst gv;simp only[sz] at hU g2;have bW:b<W.heap.size:=by
    have g:=g2 0 vH;rw[eB (by omega)] at g;exact qK g
   have cZ:∀ i (h:i<l.length),(enc l[i]).length=size:=fun i hi=>by
    obtain ⟨es,aL,aS,bi⟩:=hU i hi;rw[<- bi.1,aL]
   have Bg:∀ i (h:i<l.length),bb (l.map enc) i=enc l[i]:=fun i hi=>by
    unfold bb;rw[bZ,qn,eB hi];rfl
   have:gn (fun b=>b<W.heap.size) W (.ro (l.map enc)) (.slice (some ⟨b,off,none⟩) (l.map enc).length cap):=by
    refine .ro _ _ cap size b off (fun i j=>(W.cell? ⟨b,off+i * size+j,none⟩).getD undef) (by simpa using ao) Bf vH (fun _=>⟨rfl,bW⟩) (fun i hi=>?_) (fun i j hi ad=>?_) (fun i j hi ad=>?_)
    ·rw[bY] at hi;rw[Bg i hi];exact cZ i hi
    ·rw[bY] at hi;obtain ⟨es,aL,aS,bi⟩:=hU i hi;rw[aS j ad,eB (by omega)];rfl
    ·rw[bY] at hi;obtain ⟨es,aL,aS,bi⟩:=hU i hi;rw[Bg i hi,aS j ad];have:=bi.2 j (by rw[cZ i hi];exact ad);rwa [bZ] at this
   rwa [bY] at this
  ·have hn:l=[]:=pj (by omega);subst hn;exact .ro [] (some a) cap 1 0 0 (fun _ _=>undef) (by simp) Bf (by omega) (fun h=>by simp at h) (fun i hi=>by simp at hi) (fun i j hi=>by simp at hi) (fun i j hi=>by simp at hi)
end Go.Proofs.YtendheafcbickaaGreat.bT
namespace Go.Proofs.YtendheafcbickaaGreat.bT
variable {W:World} {v:Value} {α:Type}
open Go.ChangeShapes Go.WideShapes Go.ChangeAt Go.RowKit Go.Deep
theorem cd {P:Program} {T:TypeId} {cs out:List Value} {k:Nat} (n:Nat) (q:Cells P W T ((cs.drop k).take (P.cellsOf T))) (hn:P.cellsOf T=n:=by kernel_rfl) (he:(cs.drop k).take n=out:=by rfl):Cells P W T out:=by rw[hn,he] at q;exact q
theorem eC {f:α->Value} {p:α->Prop} (h:∃ x,[v]=[f x]/\p x):∃ x,v=f x/\p x:=by obtain ⟨x,e,w⟩:=h;injection e with e _;exact⟨x,e,w⟩
theorem lO {f:α->Value} (h:∃ x,[v]=[f x]):∃ x,v=f x:=by obtain ⟨x,e⟩:=h;injection e with e _;exact⟨x,e⟩
def Ju (S:Nat->Prop) (w:World) (cs:List Value) (x:aK):Prop:=e8 S w (aB x) cs/\fB x
set_option maxRecDepth 100000 in
theorem sP (cs:List Value) (h:Cells Tryz.prog W 146 cs):∃ x,Ju (fun b=>b<W.heap.size) W cs x:=by
 obtain ⟨ao,hf⟩:=h.jn Tryz.underlying146;rw[show Tryz.prog.cellsOf 146 = 2 from by kernel_rfl] at ao
 match cs,ao,hf with
 | [dz,b6],_,hf=>
  have g0:Cells Tryz.prog W 3 [dz]:=cd 1 (hf 0 _ rfl);have g1:Cells Tryz.prog W 3 [b6]:=cd 1 (hf 1 _ rfl);obtain ⟨eZ,rfl,w0⟩:=eC (g0.dR Tryz.underlying3);obtain ⟨ew,rfl,c4⟩:=eC (g1.dR Tryz.underlying3);exact⟨⟨eZ,ew⟩,bD (.lit _ rfl) (bD (.lit _ rfl) (jr)),⟨en w0,en c4⟩⟩
def Jv (S:Nat->Prop) (w:World) (cs:List Value) (x:hz):Prop:=e8 S w (pG x) cs/\oe x
set_option maxRecDepth 100000 in
theorem Bi (cs:List Value) (h:Cells Tryz.prog W 47 cs):∃ x,Jv (fun b=>b<W.heap.size) W cs x:=by
 obtain ⟨ao,hf⟩:=h.jn Tryz.underlying47;rw[show Tryz.prog.cellsOf 47 = 2 from by kernel_rfl] at ao
 match cs,ao,hf with
 | [dz,b6],_,hf=>
  have g0:Cells Tryz.prog W 3 [dz]:=cd 1 (hf 0 _ rfl);have g1:Cells Tryz.prog W 3 [b6]:=cd 1 (hf 1 _ rfl);obtain ⟨eZ,rfl,w0⟩:=eC (g0.dR Tryz.underlying3);obtain ⟨ew,rfl,c4⟩:=eC (g1.dR Tryz.underlying3);exact⟨⟨eZ,ew⟩,bD (.lit _ rfl) (bD (.lit _ rfl) (jr)),⟨en w0,en c4⟩⟩
def Jw (S:Nat->Prop) (w:World) (cs:List Value) (x:gA):Prop:=e8 S w (nz x) cs/\h2 x
set_option maxRecDepth 100000 in
theorem Jx (cs:List Value) (h:Cells Tryz.prog W 45 cs):∃ x,Jw (fun b=>b<W.heap.size) W cs x:=by
 obtain ⟨ao,hf⟩:=h.jn Tryz.underlying45;rw[show Tryz.prog.cellsOf 45 = 4 from by kernel_rfl] at ao
 match cs,ao,hf with
 | [dz,b6,cU,ek],_,hf=>
  have g0:Cells Tryz.prog W 3 [dz]:=cd 1 (hf 0 _ rfl);have g1:Cells Tryz.prog W 3 [b6]:=cd 1 (hf 1 _ rfl);have g2:Cells Tryz.prog W 3 [cU]:=cd 1 (hf 2 _ rfl);have g3:Cells Tryz.prog W 3 [ek]:=cd 1 (hf 3 _ rfl);obtain ⟨eZ,rfl,w0⟩:=eC (g0.dR Tryz.underlying3);obtain ⟨ew,rfl,c4⟩:=eC (g1.dR Tryz.underlying3);obtain ⟨er,rfl,du⟩:=eC (g2.dR Tryz.underlying3);obtain ⟨eK,rfl,w3⟩:=eC (g3.dR Tryz.underlying3);exact⟨⟨eZ,ew,er,eK⟩,bD (.lit _ rfl) (bD (.lit _ rfl) (bD (.lit _ rfl) (bD (.lit _ rfl) (jr)))),⟨en w0,en c4,en du,en w3⟩⟩
def Ys (S:Nat->Prop) (w:World) (cs:List Value) (x:rm):Prop:=e8 S w (Qg x) cs/\nF x
def Jy (S:Nat->Prop) (w:World) (cs:List Value) (x:bA):Prop:=e8 S w (b5 x) cs/\iY x
set_option maxRecDepth 100000 in
theorem Jz (cs:List Value) (h:Cells Tryz.prog W 235 cs):∃ x,Jy (fun b=>b<W.heap.size) W cs x:=by
 obtain ⟨ao,hf⟩:=h.jn Tryz.underlying235;rw[show Tryz.prog.cellsOf 235 = 2 from by kernel_rfl] at ao
 match cs,ao,hf with
 | [dz,b6],_,hf=>
  have g0:Cells Tryz.prog W 3 [dz]:=cd 1 (hf 0 _ rfl);have g1:Cells Tryz.prog W 29 [b6]:=cd 1 (hf 1 _ rfl);obtain ⟨eZ,rfl,w0⟩:=eC (g0.dR Tryz.underlying3);obtain ⟨ew,dg,c4,v1⟩:=iu (enc:=bm) (wf:=fun _=>True) (size:=1) (bytes:=1) Tryz.underlying29 bR bR (by decide) (fun es h=>sO Tryz.underlying5 es h) g1;exact⟨⟨eZ,ew⟩,bD (.lit _ rfl) (bD (dg) (jr)),⟨en w0,c4⟩⟩
def JA (S:Nat->Prop) (w:World) (cs:List Value) (x:dQ):Prop:=e8 S w (e5 x) cs/\ga x
set_option maxRecDepth 100000 in
theorem JB (cs:List Value) (h:Cells Tryz.prog W 130 cs):∃ x,JA (fun b=>b<W.heap.size) W cs x:=by
 obtain ⟨ao,hf⟩:=h.jn Tryz.underlying130;rw[show Tryz.prog.cellsOf 130 = 4 from by kernel_rfl] at ao
 match cs,ao,hf with
 | [dz,b6,cU,ek],_,hf=>
  have g0:Cells Tryz.prog W 3 [dz]:=cd 1 (hf 0 _ rfl);have g1:Cells Tryz.prog W 128 [b6]:=cd 1 (hf 1 _ rfl);have g2:Cells Tryz.prog W 3 [cU]:=cd 1 (hf 2 _ rfl);have g3:Cells Tryz.prog W 3 [ek]:=cd 1 (hf 3 _ rfl);obtain ⟨eZ,rfl,w0⟩:=eC (g0.dR Tryz.underlying3);obtain ⟨ew,dg,c4,v1⟩:=iu (enc:=b5) (wf:=iY) (size:=2) (bytes:=32) Tryz.underlying128 bR bR (by decide) (fun es h=>Jz es h) g1;obtain ⟨er,rfl,du⟩:=eC (g2.dR Tryz.underlying3);obtain ⟨eK,rfl,w3⟩:=eC (g3.dR Tryz.underlying3);exact⟨⟨eZ,ew,er,eK⟩,bD (.lit _ rfl) (bD (dg) (bD (.lit _ rfl) (bD (.lit _ rfl) (jr)))),⟨en w0,c4,v1,en du,en w3⟩⟩
def JC (S:Nat->Prop) (w:World) (cs:List Value) (x:ee):Prop:=e8 S w (fc x) cs/\hg x
set_option maxRecDepth 100000 in
theorem JD (cs:List Value) (h:Cells Tryz.prog W 132 cs):∃ x,JC (fun b=>b<W.heap.size) W cs x:=by
 obtain ⟨ao,hf⟩:=h.jn Tryz.underlying132;rw[show Tryz.prog.cellsOf 132 = 8 from by kernel_rfl] at ao
 match cs,ao,hf with
 | [dz,b6,cU,ek,gp,jE,lr,qS],_,hf=>
  have g0:Cells Tryz.prog W 29 [dz]:=cd 1 (hf 0 _ rfl);have g1:Cells Tryz.prog W 4 [b6]:=cd 1 (hf 1 _ rfl);have g2:Cells Tryz.prog W 3 [cU]:=cd 1 (hf 2 _ rfl);have g3:Cells Tryz.prog W 3 [ek]:=cd 1 (hf 3 _ rfl);have g4:Cells Tryz.prog W 40 [gp]:=cd 1 (hf 4 _ rfl);have g5:Cells Tryz.prog W 40 [jE]:=cd 1 (hf 5 _ rfl);have g6:Cells Tryz.prog W 4 [lr]:=cd 1 (hf 6 _ rfl);have g7:Cells Tryz.prog W 4 [qS]:=cd 1 (hf 7 _ rfl);obtain ⟨eZ,JE,w0,v0⟩:=iu (enc:=bm) (wf:=fun _=>True) (size:=1) (bytes:=1) Tryz.underlying29 bR bR (by decide) (fun es h=>sO Tryz.underlying5 es h) g0;obtain ⟨ew,rfl⟩:=lO (g1.kT Tryz.underlying4);obtain ⟨er,rfl,du⟩:=eC (g2.dR Tryz.underlying3);obtain ⟨eK,rfl,w3⟩:=eC (g3.dR Tryz.underlying3);obtain ⟨jS,ka,e9,v4⟩:=iu (enc:=aB) (wf:=fB) (size:=2) (bytes:=16) Tryz.underlying40 bR bR (by decide) (fun es h=>sP es h) g4;obtain ⟨kP,hj,fa,v5⟩:=iu (enc:=aB) (wf:=fB) (size:=2) (bytes:=16) Tryz.underlying40 bR bR (by decide) (fun es h=>sP es h) g5;obtain ⟨nu,rfl⟩:=lO (g6.kT Tryz.underlying4);obtain ⟨vI,rfl⟩:=lO (g7.kT Tryz.underlying4);exact⟨⟨eZ,ew,er,eK,jS,kP,nu,vI⟩,bD (JE) (bD (.lit _ rfl) (bD (.lit _ rfl) (bD (.lit _ rfl) (bD (ka) (bD (hj) (bD (.lit _ rfl) (bD (.lit _ rfl) (jr)))))))),⟨w0,en du,en w3,e9,v4,fa,v5⟩⟩
def JF (S:Nat->Prop) (w:World) (cs:List Value) (x:bo):Prop:=e8 S w (aO x) cs/\dx x
set_option maxRecDepth 100000 in
theorem xN (cs:List Value) (h:Cells Tryz.prog W 111 cs):∃ x,JF (fun b=>b<W.heap.size) W cs x:=by
 obtain ⟨ao,hf⟩:=h.jn Tryz.underlying111;rw[show Tryz.prog.cellsOf 111 = 7 from by kernel_rfl] at ao
 match cs,ao,hf with
 | [dz,b6,cU,ek,gp,jE,lr],_,hf=>
  have g0:Cells Tryz.prog W 3 [dz]:=cd 1 (hf 0 _ rfl);have g1:Cells Tryz.prog W 3 [b6]:=cd 1 (hf 1 _ rfl);have g2:Cells Tryz.prog W 3 [cU]:=cd 1 (hf 2 _ rfl);have g3:Cells Tryz.prog W 4 [ek]:=cd 1 (hf 3 _ rfl);have g4:Cells Tryz.prog W 3 [gp]:=cd 1 (hf 4 _ rfl);have g5:Cells Tryz.prog W 40 [jE]:=cd 1 (hf 5 _ rfl);have g6:Cells Tryz.prog W 29 [lr]:=cd 1 (hf 6 _ rfl);obtain ⟨eZ,rfl,w0⟩:=eC (g0.dR Tryz.underlying3);obtain ⟨ew,rfl,c4⟩:=eC (g1.dR Tryz.underlying3);obtain ⟨er,rfl,du⟩:=eC (g2.dR Tryz.underlying3);obtain ⟨eK,rfl⟩:=lO (g3.kT Tryz.underlying4);obtain ⟨jS,rfl,e9⟩:=eC (g4.dR Tryz.underlying3);obtain ⟨kP,hj,fa,v5⟩:=iu (enc:=aB) (wf:=fB) (size:=2) (bytes:=16) Tryz.underlying40 bR bR (by decide) (fun es h=>sP es h) g5;obtain ⟨nu,tp,gy,v6⟩:=iu (enc:=bm) (wf:=fun _=>True) (size:=1) (bytes:=1) Tryz.underlying29 bR bR (by decide) (fun es h=>sO Tryz.underlying5 es h) g6;exact⟨⟨eZ,ew,er,eK,jS,kP,nu⟩,bD (.lit _ rfl) (bD (.lit _ rfl) (bD (.lit _ rfl) (bD (.lit _ rfl) (bD (.lit _ rfl) (bD (hj) (bD (tp) (jr))))))),⟨en w0,en c4,en du,en e9,fa,v5,gy⟩⟩
def Yt (S:Nat->Prop) (w:World) (cs:List Value) (x:lQ):Prop:=e8 S w (Jq x) cs/\HV x
def JG (S:Nat->Prop) (w:World) (cs:List Value) (x:eN):Prop:=e8 S w (bC x) cs/\ji x
set_option maxRecDepth 100000 in
theorem JH (cs:List Value) (h:Cells Tryz.prog W 198 cs):∃ x,JG (fun b=>b<W.heap.size) W cs x:=by
 obtain ⟨ao,hf⟩:=h.jn Tryz.underlying198;rw[show Tryz.prog.cellsOf 198 = 4 from by kernel_rfl] at ao
 match cs,ao,hf with
 | [dz,b6,cU,ek],_,hf=>
  have g0:Cells Tryz.prog W 3 [dz]:=cd 1 (hf 0 _ rfl);have g1:Cells Tryz.prog W 3 [b6]:=cd 1 (hf 1 _ rfl);have g2:Cells Tryz.prog W 3 [cU]:=cd 1 (hf 2 _ rfl);have g3:Cells Tryz.prog W 49 [ek]:=cd 1 (hf 3 _ rfl);obtain ⟨eZ,rfl,w0⟩:=eC (g0.dR Tryz.underlying3);obtain ⟨ew,rfl,c4⟩:=eC (g1.dR Tryz.underlying3);obtain ⟨er,rfl,du⟩:=eC (g2.dR Tryz.underlying3);obtain ⟨eK,gq,w3,v3⟩:=iu (enc:=aO) (wf:=dx) (size:=7) (bytes:=88) Tryz.underlying49 bR bR (by decide) (fun es h=>xN es h) g3;exact⟨⟨eZ,ew,er,eK⟩,bD (.lit _ rfl) (bD (.lit _ rfl) (bD (.lit _ rfl) (bD (gq) (jr)))),⟨en w0,en c4,en du,w3,v3⟩⟩
def JI (S:Nat->Prop) (w:World) (cs:List Value) (x:ey):Prop:=e8 S w (iB x) cs/\gM x
set_option maxRecDepth 100000 in
theorem JJ (cs:List Value) (h:Cells Tryz.prog W 43 cs):∃ x,JI (fun b=>b<W.heap.size) W cs x:=by
 obtain ⟨ao,hf⟩:=h.jn Tryz.underlying43;rw[show Tryz.prog.cellsOf 43 = 5 from by kernel_rfl] at ao
 match cs,ao,hf with
 | [dz,b6,cU,ek,gp],_,hf=>
  have g0:Cells Tryz.prog W 3 [dz]:=cd 1 (hf 0 _ rfl);have g1:Cells Tryz.prog W 39 [b6]:=cd 1 (hf 1 _ rfl);have g2:Cells Tryz.prog W 3 [cU]:=cd 1 (hf 2 _ rfl);have g3:Cells Tryz.prog W 40 [ek]:=cd 1 (hf 3 _ rfl);have g4:Cells Tryz.prog W 41 [gp]:=cd 1 (hf 4 _ rfl);obtain ⟨eZ,rfl,w0⟩:=eC (g0.dR Tryz.underlying3);obtain ⟨ew,dg,c4,v1⟩:=iu (enc:=bC) (wf:=ji) (size:=4) (bytes:=48) Tryz.underlying39 bR bR (by decide) (fun es h=>JH es h) g1;obtain ⟨er,rfl,du⟩:=eC (g2.dR Tryz.underlying3);obtain ⟨eK,gq,w3,v3⟩:=iu (enc:=aB) (wf:=fB) (size:=2) (bytes:=16) Tryz.underlying40 bR bR (by decide) (fun es h=>sP es h) g3;obtain ⟨jS,ka,e9,v4⟩:=iu (enc:=encI) (wf:=aE) (size:=1) (bytes:=8) Tryz.underlying41 bR bR (by decide) (fun es h=>Jt Tryz.underlying3 es h) g4;exact⟨⟨eZ,ew,er,eK,jS⟩,bD (.lit _ rfl) (bD (dg) (bD (.lit _ rfl) (bD (gq) (bD (ka) (jr))))),⟨en w0,c4,v1,en du,w3,v3,e9,v4⟩⟩
def JK (S:Nat->Prop) (w:World) (cs:List Value) (x:cS):Prop:=e8 S w (eo x) cs/\jK x
set_option maxRecDepth 100000 in
theorem JL (cs:List Value) (h:Cells Tryz.prog W 134 cs):∃ x,JK (fun b=>b<W.heap.size) W cs x:=by
 obtain ⟨ao,hf⟩:=h.jn Tryz.underlying134;rw[show Tryz.prog.cellsOf 134 = 16 from by kernel_rfl] at ao
 match cs,ao,hf with
 | [dz,b6,cU,ek,gp,jE,lr,qS,vJ,vK,vL,vM,vN,vO,vP,vQ],_,hf=>
  have g0:Cells Tryz.prog W 3 [dz]:=cd 1 (hf 0 _ rfl);have g1:Cells Tryz.prog W 130 [b6,cU,ek,gp]:=cd 4 (hf 1 _ rfl);have g2:Cells Tryz.prog W 29 [jE]:=cd 1 (hf 2 _ rfl);have g3:Cells Tryz.prog W 4 [lr]:=cd 1 (hf 3 _ rfl);have g4:Cells Tryz.prog W 4 [qS]:=cd 1 (hf 4 _ rfl);have g5:Cells Tryz.prog W 132 [vJ,vK,vL,vM,vN,vO,vP,vQ]:=cd 8 (hf 5 _ rfl);obtain ⟨eZ,rfl,w0⟩:=eC (g0.dR Tryz.underlying3);obtain ⟨ew,⟨fv,dg⟩,c4⟩:=JB _ g1;obtain ⟨er,db,du,v2⟩:=iu (enc:=bm) (wf:=fun _=>True) (size:=1) (bytes:=1) Tryz.underlying29 bR bR (by decide) (fun es h=>sO Tryz.underlying5 es h) g2;obtain ⟨eK,rfl⟩:=lO (g3.kT Tryz.underlying4);obtain ⟨jS,rfl⟩:=lO (g4.kT Tryz.underlying4);obtain ⟨kP,⟨s3,hj⟩,fa⟩:=JD _ g5;exact⟨⟨eZ,ew,er,eK,jS,kP⟩,bD (.lit _ rfl) (bD (dg 0 (by show 0<4;decide)) (bD (dg 1 (by show 1<4;decide)) (bD (dg 2 (by show 2<4;decide)) (bD (dg 3 (by show 3<4;decide)) (bD (db) (bD (.lit _ rfl) (bD (.lit _ rfl) (bD (hj 0 (by show 0<8;decide)) (bD (hj 1 (by show 1<8;decide)) (bD (hj 2 (by show 2<8;decide)) (bD (hj 3 (by show 3<8;decide)) (bD (hj 4 (by show 4<8;decide)) (bD (hj 5 (by show 5<8;decide)) (bD (hj 6 (by show 6<8;decide)) (bD (hj 7 (by show 7<8;decide)) (jr)))))))))))))))),⟨en w0,c4,du,fa⟩⟩
def JM (S:Nat->Prop) (w:World) (cs:List Value) (x:aG):Prop:=e8 S w (cj x) cs/\fw x
set_option maxRecDepth 100000 in
theorem PU (cs:List Value) (h:Cells Tryz.prog W 51 cs):∃ x,JM (fun b=>b<W.heap.size) W cs x:=by
 obtain ⟨ao,hf⟩:=h.jn Tryz.underlying51;rw[show Tryz.prog.cellsOf 51 = 24 from by kernel_rfl] at ao
 match cs,ao,hf with
 | [dz,b6,cU,ek,gp,jE,lr,qS,vJ,vK,vL,vM,vN,vO,vP,vQ,JN,JO,JP,JQ,JR,JS,JT,JU],_,hf=>
  have g0:Cells Tryz.prog W 4 [dz]:=cd 1 (hf 0 _ rfl);have g1:Cells Tryz.prog W 43 [b6,cU,ek,gp,jE]:=cd 5 (hf 1 _ rfl);have g2:Cells Tryz.prog W 45 [lr,qS,vJ,vK]:=cd 4 (hf 2 _ rfl);have g3:Cells Tryz.prog W 47 [vL,vM]:=cd 2 (hf 3 _ rfl);have g4:Cells Tryz.prog W 47 [vN,vO]:=cd 2 (hf 4 _ rfl);have g5:Cells Tryz.prog W 3 [vP]:=cd 1 (hf 5 _ rfl);have g6:Cells Tryz.prog W 3 [vQ]:=cd 1 (hf 6 _ rfl);have g7:Cells Tryz.prog W 3 [JN]:=cd 1 (hf 7 _ rfl);have g8:Cells Tryz.prog W 48 [JO]:=cd 1 (hf 8 _ rfl);have g9:Cells Tryz.prog W 4 [JP]:=cd 1 (hf 9 _ rfl);have g10:Cells Tryz.prog W 49 [JQ]:=cd 1 (hf 10 _ rfl);have g11:Cells Tryz.prog W 3 [JR]:=cd 1 (hf 11 _ rfl);have g12:Cells Tryz.prog W 3 [JS]:=cd 1 (hf 12 _ rfl);have g13:Cells Tryz.prog W 4 [JT]:=cd 1 (hf 13 _ rfl);have g14:Cells Tryz.prog W 3 [JU]:=cd 1 (hf 14 _ rfl);obtain ⟨eZ,rfl⟩:=lO (g0.kT Tryz.underlying4);obtain ⟨ew,⟨fv,dg⟩,c4⟩:=JJ _ g1;obtain ⟨er,⟨gz,db⟩,du⟩:=Jx _ g2;obtain ⟨eK,⟨mG,gq⟩,w3⟩:=Bi _ g3;obtain ⟨jS,⟨eg,ka⟩,e9⟩:=Bi _ g4;obtain ⟨kP,rfl,fa⟩:=eC (g5.dR Tryz.underlying3);obtain ⟨nu,rfl,gy⟩:=eC (g6.dR Tryz.underlying3);obtain ⟨vI,rfl,hL⟩:=eC (g7.dR Tryz.underlying3);obtain ⟨JV,JW,ki,Dx⟩:=iu (enc:=eo) (wf:=jK) (size:=16) (bytes:=192) Tryz.underlying48 bR bR (by decide) (fun es h=>JL es h) g8;obtain ⟨JX,rfl⟩:=lO (g9.kT Tryz.underlying4);obtain ⟨JY,JZ,kj,v10⟩:=iu (enc:=aO) (wf:=dx) (size:=7) (bytes:=88) Tryz.underlying49 bR bR (by decide) (fun es h=>xN es h) g10;obtain ⟨J0,rfl,lW⟩:=eC (g11.dR Tryz.underlying3);obtain ⟨J1,rfl,lX⟩:=eC (g12.dR Tryz.underlying3);obtain ⟨J2,rfl⟩:=lO (g13.kT Tryz.underlying4);obtain ⟨J3,rfl,J4⟩:=eC (g14.dR Tryz.underlying3);exact⟨⟨eZ,ew,er,eK,jS,kP,nu,vI,JV,JX,JY,J0,J1,J2,J3⟩,bD (.lit _ rfl) (bD (dg 0 (by show 0<5;decide)) (bD (dg 1 (by show 1<5;decide)) (bD (dg 2 (by show 2<5;decide)) (bD (dg 3 (by show 3<5;decide)) (bD (dg 4 (by show 4<5;decide)) (bD (db 0 (by show 0<4;decide)) (bD (db 1 (by show 1<4;decide)) (bD (db 2 (by show 2<4;decide)) (bD (db 3 (by show 3<4;decide)) (bD (gq 0 (by show 0<2;decide)) (bD (gq 1 (by show 1<2;decide)) (bD (ka 0 (by show 0<2;decide)) (bD (ka 1 (by show 1<2;decide)) (bD (.lit _ rfl) (bD (.lit _ rfl) (bD (.lit _ rfl) (bD (JW) (bD (.lit _ rfl) (bD (JZ) (bD (.lit _ rfl) (bD (.lit _ rfl) (bD (.lit _ rfl) (bD (.lit _ rfl) (jr)))))))))))))))))))))))),⟨c4,du,w3,e9,en fa,en gy,en hL,ki,Dx,kj,v10,en lW,en lX,en J4⟩⟩
def Yu (S:Nat->Prop) (w:World) (cs:List Value) (x:tB):Prop:=e8 S w (Ew x) cs/\vf x
def Yv (S:Nat->Prop) (w:World) (cs:List Value) (x:vh):Prop:=e8 S w (Qi x) cs/\zn x
def Yw (S:Nat->Prop) (w:World) (cs:List Value) (x:tD):Prop:=e8 S w (Jr x) cs/\xn x
def Yx (S:Nat->Prop) (w:World) (cs:List Value) (x:xo):Prop:=e8 S w (Qj x) cs/\HX x
def Yy (S:Nat->Prop) (w:World) (cs:List Value) (x:vi):Prop:=e8 S w (Js x) cs/\zo x
def aco (S:Nat->Prop) (w:World) (cs:List Value) (x:vg):Prop:=e8 S w (Yp x) cs/\zk x
end Go.Proofs.YtendheafcbickaaGreat.bT
