/-
  SEVERAL TEXTS IN ONE: each with its own comment.
-/
import Derived.Test.YtendheafcbickaaGreatCMg37
import Derived.Test.YtendheafcbickaaGreatCHrF
import Derived.ProofKit
import Derived.WalkSpells
import Derived.WalkLawsBesides
import Derived.OpenShut
import Derived.ShutString
import Derived.ChangeOld
import Derived.SizedLaws
import Derived.Deep.Slices
import Derived.Deep.CondSized
set_option linter.unusedVariables false
set_option linter.unusedSimpArgs false
set_option maxHeartbeats 16000000
namespace Go.Proofs.YtendheafcbickaaGreat
open Go.RowKit
section
variable {P:Program} {n0:Nat}
theorem Nb {id T j0:Nat} {cs eU:List V} {st:aW} (e s:Nat) (ai:Nat.blt 0 s=true) (hn0:Nat.ble n0 st.next=true) (ct:Nat.beq id st.next=false) (hh:aM st.heap id=some (.box T cs)) (sT:j0<cs.length) (GU:bw cs j0=aX) (hN:cs.set j0 (.own st.next)=eU) :
  cg P n0 st { env:=st.env,heap:=(id,some (.box T eU)) :: (st.next,some (.row e s [])) :: st.heap,next:=st.next+1,af:=st.af }:=fun F base w0 ρ a w hH ax=>by
 subst hN;obtain ⟨bl,aL,aS,bi,cq⟩:=Ld e s ai hn0 hH ax;have Fp:id≠st.next:=fun e=>by rw[e] at ct;simp at ct
 have p1:aM ((st.next,some (.row e s [])) :: st.heap) id=some (.box T cs):=by
  rw[cl,ah (Ne.symm Fp)];exact hh
 obtain ⟨dg,db,gq⟩:=aL.step (bl:=bl) (cB:=(id,some (.box T (cs.set j0 (.own st.next)))) :: (st.next,some (.row e s [])) :: st.heap) (next':=st.next+1) (aF:=w) id none
  ⟨rfl,rfl,rfl,e4 _,fun _ _ _=>rfl⟩ (fun k ag=>by cases ag) (fun _ _ h=>h) (fun j u h=>aL.sup j u h)
  (fun j B ad an=>by
   rw[cl,ah (Ne.symm ad)] at an;obtain ⟨u,hu⟩:=aL.nd an
   exact⟨an,u,hu,fun _ _ _ e=>by cases e⟩)
  (fun B u b an ur hu hb=>by
   refine .inr ⟨fun aw=>aw.2 id _ _ p1 rfl hu hb,fun j bd dD ad b0 dK c2 cG=>?_⟩;rw[cl,ah (Ne.symm ad)] at b0
   exact ad (aL.inj j id bd _ dD _ b b0 p1 dK rfl c2 hu cG hb))
  (fun B an hS dc=>by
   rw[cl,al rfl] at an;injection an with an;subst an;obtain ⟨b,us,aI,a7,cC,eI,fZ⟩:=aL.cJ _ _ p1;refine ⟨b,us,aI,a7,by first|exact cC|(rw[e1];exact cC),by first|exact eI|(rw[e1];exact eI),fun j ad=>?_⟩;rw[e1] at ad;have dG:=fZ j ad;rw[G4 _ _ _ _ ad];refine ⟨?_,dG.2⟩;by_cases G5:j=j0
   ·subst G5;rw[al rfl];rw[GU] at dG;have:=fO dG.1;rw[this];exact .own bi
   ·rw[ah G5]
    exact dG.1.mono (dl.refl _ _) hS (fun _ _ h=>h))
 exact⟨bl,dg,aS.mono db gq (fun _ _ h=>h),fun j ad=>cq j (by have:=bM hn0;omega)⟩
end
end Go.Proofs.YtendheafcbickaaGreat
namespace Go.Proofs.YtendheafcbickaaGreat
set_option maxRecDepth 100000
attribute [local irreducible] cE a6 bu GStep Fn cg bf cA
theorem G6 {B:Nat} (u:Int->Value) (c:aG) (f:bo) (now:Int) (ad:c3 c) (ao:cK B c) (an:B<=16777216) (hf:dx f) (hu:∀ i,c.cN<=i->u i = .slice none 0 0) (ib:f.Kind≠8) (C:aG) (e:Int) (ap:gY c f now=(C,e)) (H:List (Nat×Option aT)) (hH:(e=0/\H=[(0,some (.box 116 (a1 C (.own 3) (.own 4)))),(3,some (.row 134 16 (C.aq.map (aV u)))),(4,some (.row 111 7 (C.Queue.map aO)))])\/(e≠0/\H=[(0,some (.box 116 (a1 C (.own 3) (.own 4))))])) :
  cA Tryz.prog 63 [.ptr 0 0 0 0,.agg (aO f),I now] [(0,some (.box 116 (a1 c (.own 1) (.own 2)))),(1,some (.row 134 16 (c.aq.map (aV u)))),(2,some (.row 111 7 (c.Queue.map aO)))] 3 (I e) H 5:=by
 unfold gY at ap;by_cases de:f.Kind=2
 ·rw[al de] at ap;have j4:=Ui u c f now ad ao an hf C e ap H hH;rcases hH with⟨ai,rfl⟩ | ⟨ai,rfl⟩
  ·obtain ⟨cF,cn,cL,fin,dj,dI,dh⟩:=f;unfold a1 aO at *;dsimp only at *;refine aH Tryz.func63 ?_;(refine pH ?_;and_intros <;> intros)
   all_goals first|exact ed|skip
  ·obtain ⟨cF,cn,cL,fin,dj,dI,dh⟩:=f;unfold a1 aO at *;dsimp only at *;refine aH Tryz.func63 ?_;(refine pH ?_;and_intros <;> intros)
   all_goals first|exact ed|skip
 rw[ah de] at ap;rw[ah ib] at ap;by_cases jI:f.Kind=4
 ·rw[al jI] at ap;have j4:=SJ u c f ad ao an hf hu C e ap H hH;rcases hH with⟨ai,rfl⟩ | ⟨ai,rfl⟩
  ·obtain ⟨cF,cn,cL,fin,dj,dI,dh⟩:=f;unfold a1 aO at *;dsimp only at *;refine aH Tryz.func63 ?_;(refine pH ?_;and_intros <;> intros)
   all_goals first|exact ed|skip
  ·obtain ⟨cF,cn,cL,fin,dj,dI,dh⟩:=f;unfold a1 aO at *;dsimp only at *;refine aH Tryz.func63 ?_;(refine pH ?_;and_intros <;> intros)
   all_goals first|exact ed|skip
 rw[ah jI] at ap;by_cases mC:f.Kind=5
 ·rw[al mC] at ap;have j4:=SC u c f ad ao an hf hu C e ap H hH;rcases hH with⟨ai,rfl⟩ | ⟨ai,rfl⟩
  ·obtain ⟨cF,cn,cL,fin,dj,dI,dh⟩:=f;unfold a1 aO at *;dsimp only at *;refine aH Tryz.func63 ?_;(refine pH ?_;and_intros <;> intros)
   all_goals first|exact ed|skip
  ·obtain ⟨cF,cn,cL,fin,dj,dI,dh⟩:=f;unfold a1 aO at *;dsimp only at *;refine aH Tryz.func63 ?_;(refine pH ?_;and_intros <;> intros)
   all_goals first|exact ed|skip
 rw[ah mC] at ap;by_cases sb:f.Kind=16
 ·rw[al sb] at ap;have j4:=SF u c f sb C e ap H hH;rcases hH with⟨ai,rfl⟩ | ⟨ai,rfl⟩
  ·obtain ⟨cF,cn,cL,fin,dj,dI,dh⟩:=f;unfold a1 aO at *;dsimp only at *;refine aH Tryz.func63 ?_;(refine pH ?_;and_intros <;> intros)
   all_goals first|exact ed|skip
  ·obtain ⟨cF,cn,cL,fin,dj,dI,dh⟩:=f;unfold a1 aO at *;dsimp only at *;refine aH Tryz.func63 ?_;(refine pH ?_;and_intros <;> intros)
   all_goals first|exact ed|skip
 rw[ah sb] at ap;by_cases qf:f.Kind=17
 ·rw[al qf] at ap;have j4:=SH u c f ad ao an hf hu ⟨by omega,by omega⟩ C e ap H hH;rcases hH with⟨ai,rfl⟩ | ⟨ai,rfl⟩
  ·obtain ⟨cF,cn,cL,fin,dj,dI,dh⟩:=f;unfold a1 aO at *;dsimp only at *;refine aH Tryz.func63 ?_;(refine pH ?_;and_intros <;> intros)
   all_goals first|exact ed|skip
  ·obtain ⟨cF,cn,cL,fin,dj,dI,dh⟩:=f;unfold a1 aO at *;dsimp only at *;refine aH Tryz.func63 ?_;(refine pH ?_;and_intros <;> intros)
   all_goals first|exact ed|skip
 rw[ah qf] at ap;by_cases sc:f.Kind=18
 ·rw[al sc] at ap;have j4:=SG u c f sc C e ap H hH;rcases hH with⟨ai,rfl⟩ | ⟨ai,rfl⟩
  ·obtain ⟨cF,cn,cL,fin,dj,dI,dh⟩:=f;unfold a1 aO at *;dsimp only at *;refine aH Tryz.func63 ?_;(refine pH ?_;and_intros <;> intros)
   all_goals first|exact ed|skip
  ·obtain ⟨cF,cn,cL,fin,dj,dI,dh⟩:=f;unfold a1 aO at *;dsimp only at *;refine aH Tryz.func63 ?_;(refine pH ?_;and_intros <;> intros)
   all_goals first|exact ed|skip
 rw[ah sc] at ap;by_cases tm:f.Kind=26
 ·rw[al tm] at ap;have j4:=wy u c (tl f.Code) ao.iK
  cases ap
  refine FH ?_ hH;unfold fE;unfold tl at *;obtain ⟨cF,cn,cL,fin,dj,dI,dh⟩:=f;unfold a1 aO at *;dsimp only at *;refine aH Tryz.func63 ?_;refine G7 ?_;(repeat' first|(refine dL [0,3,4] (j4) (h:=?_))|(refine fi [0,3,4] (j4) (h:=?_))|(refine gd [0,3,4] (j4) (h:=?_))|(refine ay ?_;(and_intros <;> intros))|fail)
  all_goals first|exact ed|skip
 rw[ah tm] at ap;by_cases hs:f.Kind=28
 ·rw[al hs] at ap
  cases ap
  rcases hH with⟨_,rfl⟩ | ⟨h,_⟩
  ·obtain ⟨cF,cn,cL,fin,dj,dI,dh⟩:=f;obtain ⟨aA,space,bg,bc,bp,ids,bJ,opened,aC,bF,queue,last,bK,bS,code⟩:=c;unfold mq a1 aO;dsimp only at *;refine aH Tryz.func63 ?_;(repeat' first|refine gU [] (h:=?_)|(refine fI 19 ?_;(and_intros <;> intros))|fail)
   all_goals try (exfalso;omega)
   refine gH (Nb (id:=0) (j0:=17) 134 16 rfl rfl rfl rfl (bM rfl) rfl rfl) ?_;refine gH (Nb (id:=0) (j0:=19) 111 7 rfl rfl rfl rfl (bM rfl) rfl rfl) ?_;(try refine ay ?_;and_intros <;> intros)
   all_goals first|exact ed|skip
  ·exact absurd rfl h
 rw[ah hs] at ap
 cases ap
 rcases hH with⟨ai,rfl⟩ | ⟨ai,rfl⟩
 ·obtain ⟨cF,cn,cL,fin,dj,dI,dh⟩:=f;unfold a1 aO at *;dsimp only at *;refine aH Tryz.func63 ?_;refine G7 ?_;(try refine ay ?_;and_intros <;> intros)
  all_goals first|exact ed|skip
 ·obtain ⟨cF,cn,cL,fin,dj,dI,dh⟩:=f;unfold a1 aO at *;dsimp only at *;refine aH Tryz.func63 ?_;refine G7 ?_;(try refine ay ?_;and_intros <;> intros)
  all_goals first|exact ed|skip
end Go.Proofs.YtendheafcbickaaGreat
namespace Go.Proofs.YtendheafcbickaaGreat
open Go.RowKit
section
variable {P:Program} {f:FuncId} {args:List V} {r:V} {TE TL TQ TB:TypeId} {s sq c:Nat} {bx nA:List V} {q A:List (List V)} {R:Nat->List (List V)}
set_option maxRecDepth 10000
theorem Uj (qv:∀ u:Nat->Value,(∀ i,A.length<=i->u i=oR)->cA P f args [(0,some (.box TE bx)),(1,some (.row TL s (dB c (fun i=>.lit (u i)) A))),(2,some (.row TQ sq q))] 3 r [(0,some (.box TE nA))] 5) (dC:A.length<=4) (ar:∀ i,i<A.length->(bb A i).length=s/\(bb A i).all hQ=true) (ap:∀ i,A.length<=i->R i=[]) (iT:cz.ej jA args=args) (G8:cz.ej jA bx=bx) :
  cA P f args [(0,some (.box TE bx)),(1,some (.ch TL s (dB c (fun i=>.own (3+i)) A))),(2,some (.row TQ sq q)),(3,some (.row TB 1 (R 0))),(4,some (.row TB 1 (R 1))),(5,some (.row TB 1 (R 2))),(6,some (.row TB 1 (R 3)))] 7
   (cz jA r) [(0,some (.box TE (cz.ej jA nA)))] 9:=by
 refine ⟨(qv (fun _=>oR) (fun _ _=>rfl)).1,by omega,fun F base w0 ρ w fQ cZ hH G9=>?_⟩;obtain ⟨u,hu⟩:∃ u:Nat->Value,u=fun i=>if i<A.length then(ρ (3+i)).getD oR else oR:=⟨_,rfl⟩
 have u1:∀ i,i<4 -> ∃ v,ρ (3+i)=some v:=by
  intro i hi;rcases (show i=0\/i=1\/i=2\/i=3 by omega) with rfl|rfl|rfl|rfl
  ·obtain ⟨_,v,xs,J,_⟩:=hH.cJ 3 (.row TB 1 (R 0)) rfl;exact⟨v,J⟩
  ·obtain ⟨_,v,xs,J,_⟩:=hH.cJ 4 (.row TB 1 (R 1)) rfl;exact⟨v,J⟩
  ·obtain ⟨_,v,xs,J,_⟩:=hH.cJ 5 (.row TB 1 (R 2)) rfl;exact⟨v,J⟩
  ·obtain ⟨_,v,xs,J,_⟩:=hH.cJ 6 (.row TB 1 (R 3)) rfl;exact⟨v,J⟩
 have w4:∀ i,i<A.length->ρ (3+i)=some (u i):=fun i hi=>by
  obtain ⟨v,ak⟩:=u1 i (by omega);rw[hu];simp only[al hi,ak,tn]
 have nB:∀ i,A.length<=i->u i=oR:=fun i hi=>by rw[hu];simp only[ah (show ¬ i<A.length by omega)]
 have Nc:∀ i,(u i).oneCell' = true:=fun i=>by
  by_cases hi:i<A.length
  ·exact(hH.sup _ _ (w4 i hi)).2
  ·rw[nB i (by omega)];rfl
 obtain ⟨yO,Ha⟩:=Nd (bd:=.row TL s (dB c (fun i=>.lit (u i)) A)) hH (id:=1) rfl rfl rfl (fun h=>by
  obtain ⟨ai,v,xs,J,aa,az,bk⟩:=h;rw[kw] at aa az bk;refine ⟨ai,v,xs,J,by rw[kw];exact aa,fun i hi=>?_,fun i j hi ad=>?_⟩
  ·rw[kw] at hi;rw[Hb hi];exact(ar i hi).1
  ·rw[kw] at hi;obtain ⟨x,ew,er,eK⟩:=bk i j hi ad;refine ⟨x,ew,?_,eK⟩;rw[Hc hi (ar i hi).1 ad] at er ⊢;by_cases ob:j=c
   ·rw[al ob] at er ⊢;have:=j8 er;rw[w4 i hi] at this;injection this with this;rw[this];exact .lit x eK
   ·rw[ah ob] at er ⊢
    exact yP er (Nf (ar i hi).2 (by rw[(ar i hi).1];exact ad)))
 generalize CQ:([(0,some (.box TE bx)),(1,some (.ch TL s (dB c (fun i=>.own (3+i)) A))),(2,some (.row TQ sq q)),(3,some (.row TB 1 (R 0))),(4,some (.row TB 1 (R 1))),(5,some (.row TB 1 (R 2))),(6,some (.row TB 1 (R 3)))]:List (Nat×Option aT))=yQ at *;have jl:∀ v,v ∈ [7,8]->ρ v=none:=fun v ak=>ql hH.sup (by simp at ak;omega)
 have hY:ρ 9=none:=ql hH.sup (by omega);have hh:∀ id B,aM [(0,some (.box TE bx)),(1,some (.row TL s (dB c (fun i=>.lit (u i)) A))),(2,some (.row TQ sq q))] id=some B->id<[0,1,2].length/\aM ((1,some (.row TL s (dB c (fun i=>.lit (u i)) A))) :: yQ) (cp ([0,1,2]++[7,8]) 9 id)=some (jm (cp ([0,1,2]++[7,8]) 9) B):=fun id B an=>by
  rw[cl,cl,cl] at an;subst CQ;split at an
  ·rename_i e;subst e;injection an with an;subst an;refine ⟨by decide,?_⟩;show some (aT.box TE bx)=some (.box TE (cz.ej jA bx));rw[G8]
  ·split at an
   ·rename_i e;subst e;injection an with an;subst an;exact⟨by decide,rfl⟩
   ·split at an
    ·rename_i e;subst e;injection an with an;subst an;exact⟨by decide,rfl⟩
    ·simp[aM] at an
 refine ((qv u nB).2.2 _ _ w _ w fQ cZ (Hd (M:=[0,1,2]) (V:=[7,8]) yO rfl jl hY hh) (fun j ad=>?_)).mono ?_
 ·have h:=G9 j ad;have e:bw args j=cz jA (bw args j):=by
   have:=mR (m:=jA) ad;rw[iT] at this;exact this
  rw[e] at h;exact yR (fun b h _=>CR hh (by rw[Ha];exact h)) (fun i u hu=>yS jl hY hu) h
 ·rintro e aF ⟨v,bl,rfl,aL,aS,bi⟩;obtain ⟨dg,db,gq,ka,hj,tp⟩:=He (M:=[0,1,2]) (V:=[7,8]) (mS:=9) yO rfl jl (fun v ak=>by simp at ak;omega) (by omega) hY hh rfl (fun p ar=>by simp at ar;subst ar;simp) aL bi;generalize Hf:mT ρ bl [0,1,2].length [7,8]=oS at *;have hold:∀ id,id ∉ [7,8]->oS id=ρ id:=fun id h=>by rw[<- Hf];exact w5 h
  obtain ⟨Z,jU⟩:∃ Z,Z=hA (cp ([0,1,2]++[7,8]) 9) [(0,some (.box TE nA))]++(hO [0,1,2]++(1,some (.row TL s (dB c (fun i=>.lit (u i)) A))) :: yQ):=⟨_,rfl⟩;rw[<- jU] at dg db gq;have hc:uC Z [(0,some (.box TE (cz.ej jA nA)))]:=by rw[jU];exact⟨rfl,trivial⟩
  have gu:∀ b,bs F oS Z b->bs F oS [(0,some (.box TE (cz.ej jA nA)))] b:=fun b h=>⟨h.1,fun id B x an ae U=>h.2 id B x (nT hc id B an) ae U⟩
  refine ⟨v,oS,rfl,⟨⟨dg.below,dg.fl,dg.sup,fun id dk B bd x mU b an b0=>dg.inj id dk B bd x mU b (nT hc id B an) (nT hc dk bd b0),fun id B an=>?_⟩,dg.dX⟩,(tq (fun b h ao=>gq b h ao) hj aS).mono (dl.refl _ _) (fun b h _=>gu b h) (fun _ _ h=>h),fun id hid=>?_⟩
  ·exact(dg.cJ id B (nT hc id B an)).mono (dl.refl _ _) (fun b h _=>gu b h) (fun _ _ h=>h) (fun _ _ _ _ _ _=>rfl)
  ·exact hold id (by simp;omega)
end
end Go.Proofs.YtendheafcbickaaGreat
namespace Go.Proofs.YtendheafcbickaaGreat
variable {cY:Array Field} {k:IntKind}
open Go.ChangeShapes Go.WideShapes Go.ChangeAt Go.RowKit Go.Deep
def Cells (P:Program) (W:World) (t:TypeId) (cs:List Value):Prop:=
 ∃ (H:Type) (enc:TypeId×Value->H) (iO:Nat) (x:DataW H×List MemPlace),
  DataW.trod enc P W 0 (fun _=>true) true iO t cs=some x /\ ∀ n ∈ x.1.weights P t,n<=reachBytes
def kb (P:Program) (W:World) (t:TypeId) (v:Value):Prop:=
 (∃ base,Value.okWide P W .any base t v)/\Cells P W t v.cells.toList
def qw (P:Program) (W:World):List TypeId->List Value->Prop
 | [],vs=>vs=[]
 | t :: ts,vs=>∃ v cP,vs=v :: cP /\ kb P W t v/\qw P W ts cP
section
variable {P:Program} {W:World} {t e:TypeId} {v:Value} {cs:List Value}
theorem Cells.dR (hu:P.underlying t=some (.int k)) (h:Cells P W t cs):∃ n,cs=[.int k n]/\(Lit.int k n).wf=true:=by
 obtain ⟨H,enc,iO,x,U,_⟩:=h;obtain ⟨n,J,_,az⟩:=DataW.trod_int hu U;exact⟨n,J,az⟩
theorem Cells.kT (hu:P.underlying t=some .bool) (h:Cells P W t cs):∃ b:Bool,cs=[.bool b]:=by
 obtain ⟨H,enc,iO,x,U,_⟩:=h;obtain ⟨n,J,_⟩:=DataW.trod_bool hu U;exact⟨n,J⟩
theorem Hg {H:Type} {P:Program} {e:TypeId}:∀ {ds:List (DataW H)} {d:DataW H},d ∈ ds -> ∀ n ∈ d.weights P e,n ∈ DataW.weightsAll P e ds
 | [],_,h,_,_=>by cases h
 | d0 :: ds,d,h,n,hn=>by
  simp only[DataW.weightsAll,gr];rcases hX.1 h with rfl|h
  ·exact .inl hn
  ·exact .inr (Hg h n hn)
theorem Cells.w6 (hu:P.underlying t=some (.slice e)) (h:Cells P W t cs) :
  (cs=[.slice none 0 0]) \/ ∃ (a:Addr) (len cap:Nat),cs=[.slice (some a) len cap]/\len<=cap/\cap<=maxLen/\cap * P.bytesOf e<=reachBytes /\
   ∀ i,i<cap -> ∃ es,es.length=P.cellsOf e/\(∀ j,j<P.cellsOf e->W.cell? ((a.add (i * P.cellsOf e)).add j)=es[j]?)/\Cells P W e es:=by
 obtain ⟨H,enc,iO,x,U,hw⟩:=h;rcases open_slice hu U with ai | ⟨a,len,cap,m,n,D,Uk,hN,_,ao,hm,pE,yT,hi⟩
 ·exact .inl ai.1
 ·simp only[if_true] at pE;subst pE;subst yT;refine .inr ⟨a,len,m,hN,ao,hm,?_,fun i Hh=>?_⟩
  ·have:=hw ((len+(m - len)) * P.bytesOf e) (by simp[DataW.weights,hu]);rwa [show len+(m - len)=m by omega] at this
  ·obtain ⟨es,hc,ht⟩:=hi i Hh;obtain ⟨_,sd,cR⟩:=World.cells?_some hc;refine ⟨es,sd,cR,H,enc,n,_,ht,fun yU CS=>hw yU ?_⟩;simp only[DataW.weights,hu,hX,gr];right;by_cases jL:i<len
   ·exact .inl (Hg (List.mem_map.2 ⟨i,List.mem_range.2 jL,rfl⟩) _ CS)
   ·exact .inr (Hg (List.mem_map.2 ⟨i - len,List.mem_range.2 (by omega),by rw[show len+(i - len)=i by omega]⟩) _ CS)
theorem Cells.jn (hu:P.underlying t=some (.struct cY)) (h:Cells P W t cs) :
  cs.length=P.cellsOf t /\ ∀ (i:Nat) (f:Field),cY[i]? = some f->Cells P W f.type ((cs.drop f.offset).take (P.cellsOf f.type)):=by
 obtain ⟨H,enc,iO,x,U,hw⟩:=h;obtain ⟨xs,n,_,rfl,ao,hlen,hf⟩:=DataW.trod_struct hu U;refine ⟨ao,fun i f hi=>?_⟩;have bW:i<xs.length:=by rw[hlen];exact(gB.1 hi).1
 have J:=hf i f hi;rw[eB bW] at J;refine ⟨H,enc,n,_,J,fun yU CS=>hw yU ?_⟩;simp only[DataW.weights,hu];exact DataW.weights_mem_each (j:=i) (t:=f.type) (d:=xs[i].1) (by simp[<- Array.getElem?_toList] at hi ⊢;exact⟨f,hi,rfl⟩) (by simp[bW]) _ CS
theorem kb.dR (hu:P.underlying t=some (.int k)) (h:kb P W t v):∃ n,v = .int k n/\(Lit.int k n).wf=true:=by
 obtain ⟨⟨b,hb⟩,hc⟩:=h;obtain ⟨n,rfl⟩:=okWide_int hu hb;obtain ⟨yU,J,aa⟩:=hc.dR hu;simp[Value.cells] at J;subst J;exact⟨n,rfl,aa⟩
theorem kb.kT (hu:P.underlying t=some .bool) (h:kb P W t v):∃ b:Bool,v = .bool b:=by
 obtain ⟨⟨b,hb⟩,hc⟩:=h;exact okWide_bool hu hb
theorem kb.w6 (hu:P.underlying t=some (.slice e)) (h:kb P W t v):∃ a n c,v = .slice a n c/\Cells P W t [.slice a n c]:=by
 obtain ⟨⟨b,hb⟩,hc⟩:=h;obtain ⟨a,n,c,rfl⟩:=okWide_slice hu hb;exact⟨a,n,c,rfl,by simpa[Value.cells] using hc⟩
theorem kb.jn (hu:P.underlying t=some (.struct cY)) (h:kb P W t v):∃ cs:List Value,v = .agg cs.toArray/\Cells P W t cs:=by
 obtain ⟨⟨b,hb⟩,hc⟩:=h;obtain ⟨cs,rfl,_⟩:=okWide_struct hu hb;exact⟨cs.toList,by simp,by simpa[Value.cells] using hc⟩
end
theorem Hi {H:Type} {enc:TypeId×Value->H} {P:Program} (ao:laidOutB P=true) {W pI:World} (hb:Below W.heap.size W pI) :
  ∀ {ts:List TypeId} {vs:List Value} {ds:List (DataW H)} {c5:List MemPlace},(∀ t ∈ ts,P.readableRec t=true/\t<P.types.size) ->
   DataW.TrodAll enc P W 0 (fun _=>true) true ts vs ds c5->DataW.TrodAll enc P pI 0 (fun b=>decide (b<W.heap.size)) true ts vs ds c5
 | [],vs,ds,c5,_,h=>by cases vs <;> cases ds <;> simp_all [DataW.TrodAll]
 | t :: ts,vs,ds,c5,hr,h=>by
  obtain ⟨v,cP,d,uv,p,q,rfl,rfl,rfl,J,aa⟩:=trodAll_cons h;have bW:∀ x ∈ p,x.block<W.heap.size:=by
   obtain ⟨m,hm⟩:=J;exact DataW.trod_lt m _ _ _ hm
  exact trodAll_cons_mk (Below.trod ao (hr t (by simp)).1 (hr t (by simp)).2 J hb bW) (Hi ao hb (fun np ht=>hr np (by simp[ht])) aa)
theorem yV {H:Type} {enc:TypeId×Value->H} {P:Program} {W:World} :
  ∀ {ts:List TypeId} {vs:List Value} {ds:List (DataW H)} {c5:List MemPlace},(∀ (j:Nat) t v,ts[j]? = some t->vs[j]? = some v -> ∃ base,Value.okWide P W .any base t v) ->
   (∀ n ∈ DataW.weightsEach P ts ds,n<=reachBytes)->DataW.TrodAll enc P W 0 (fun _=>true) true ts vs ds c5->qw P W ts vs
 | [],vs,ds,c5,_,_,h=>by cases vs <;> cases ds <;> simp_all [DataW.TrodAll,qw]
 | t :: ts,vs,ds,c5,ak,hw,h=>by
  obtain ⟨v,cP,d,uv,p,q,rfl,rfl,rfl,J,aa⟩:=trodAll_cons h;refine ⟨v,cP,rfl,⟨ak 0 t v rfl rfl,?_⟩,yV (fun j np cH az bk=>ak (j+1) np cH (by simpa using az) (by simpa using bk)) (fun n hn=>hw n (by simp[DataW.weightsEach,hn])) aa⟩;obtain ⟨m,hm⟩:=J;exact⟨H,enc,m,_,hm,fun n hn=>hw n (by simp[DataW.weightsEach,hn])⟩
theorem Ng {C:Checked} {os:Os} {f:FuncId} {fn:Func} {s:ChangeSpec} {eJ:TypeId} {H:Type} {enc:TypeId×Value->H} (own:ownKnob C.prog.godebug=none) (started:os.Started) (Hj:C.prog.inits.idxOf? f=none) (qx:C.prog.funcs[f]? = some fn) (witness:∃ (w:World) (tape:Tape) (i:Input),w.os=os/\(w.forCall tape i).Shaped C.prog/\i.vars=[]/\Input.okWide C.prog (w.forCall tape i) .any w.heap.size f i /\
   s.pre6 enc C.prog fn [] false (w.forCall tape i).memory i.args/\({}:Assume).holds C.prog (lone (Frame.enter C.prog f i.args .normal) [] (w.forCall tape i))) (ao:laidOutB C.prog=true) (w7:s.vars=[]) (Hk:∀ ds:List (DataW H),ds.length=fn.params.size->s.fn H ds={ results:=[.lit (.bool true)],args:=ds }) (CT:fn.resultTypes = #[eJ]) (hb:C.prog.underlying eJ=some .bool) (Hl:(fn.params.toList.all fun t=>C.prog.readableRec t && decide (t<C.prog.types.size))=true) (walk:∀ (W:World) (args:Array Value),qw C.prog W fn.params.toList args.toList->Calls C.prog f args W fun e pI=>e = .returned (.bool true)/\Below W.heap.size W pI) :
  ReturnsInHanded {} C os f .any (s.pre6 enc C.prog fn [] false) (s.post enc C.prog fn false true false false):=by
 refine returnsInHanded_of_change_sized own started Hj qx witness ?_;have Hm:∀ t ∈ fn.params.toList,C.prog.readableRec t=true/\t<C.prog.types.size:=fun t ht=>by
  have:=lG.1 Hl t ht;simpa using this
 intro W base args ds gs before Ho kx _ cZ _;have Hp:=kx;obtain ⟨p,q,dC,jl,rfl,Ul,nQ⟩:=kx;rw[w7] at jl;obtain ⟨rfl,rfl⟩:=trodVars_none jl;have hlen:ds.length=fn.params.size:=by
  have:∀ (ts:List TypeId) (vs:List Value) (ds:List (DataW H)) (c5:List MemPlace),DataW.TrodAll enc C.prog W 0 (fun _=>true) true ts vs ds c5->ds.length=ts.length:=by
   intro ts;induction ts with
   | nil=>intro vs ds c5 h;cases vs <;> cases ds <;> simp_all [DataW.TrodAll]
   | cons t ts bU=>
    intro vs ds c5 h;obtain ⟨v,cP,d,uv,p,q,rfl,rfl,rfl,J,aa⟩:=trodAll_cons h;simp[bU _ _ _ aa]
  simpa using this _ _ _ _ dC
 have Um:∀ n ∈ DataW.weightsEach C.prog fn.params.toList ds,n<=reachBytes:=by
  have ak:s.plain.varTypes C.prog=[]:=by simp[ChangeSpec.plain,DataSpec.varTypes,w7]
  rw[ak] at cZ;simpa using cZ
 have iT:qw C.prog W fn.params.toList args.toList:=yV (fun j t v J aa=>⟨base,Ho j t v (by simpa using J) (by simpa using aa)⟩) Um dC;refine (walk W args iT).mono fun e pI ⟨he,yW⟩=>?_
 subst he;have gv:=Hk (ds++[]) (by simpa using hlen);refine ⟨_,rfl,ds,[],_,[],p,[],Hp,?_,?_,?_,yW.frame _,fun h=>by cases h⟩
 ·rw[gv,CT];exact trodAll_mk1 (shut_bool hb _)
 ·rw[gv];simp only[lV];exact Hi ao yW Hm dC
 ·rw[w7,gv];rfl
end Go.Proofs.YtendheafcbickaaGreat
namespace Go.Proofs.YtendheafcbickaaGreat.bT
variable {H:Type} {cY:Array Field} {k:IntKind}
open Go.ChangeShapes Go.WideShapes Go.ChangeAt Go.RowKit Go.Deep
def Cells (P:Program) (W:World) (t:TypeId) (cs:List Value):Prop:=
 ∃ (H:Type) (enc:TypeId×Value->H) (iO:Nat) (x:DataW H×List MemPlace),
  DataW.trod enc P W 0 (fun _=>true) true iO t cs=some x/\Rows.uptoBulk x.1<=1048576
def kb (P:Program) (W:World) (t:TypeId) (v:Value):Prop:=
 (∃ base,Value.okWide P W .any base t v)/\Cells P W t v.cells.toList
def qw (P:Program) (W:World):List TypeId->List Value->Prop
 | [],vs=>vs=[]
 | t :: ts,vs=>∃ v cP,vs=v :: cP /\ kb P W t v/\qw P W ts cP
section
variable {P:Program} {W:World} {t e:TypeId} {v:Value} {cs:List Value}
theorem Cells.dR (hu:P.underlying t=some (.int k)) (h:Cells P W t cs):∃ n,cs=[.int k n]/\(Lit.int k n).wf=true:=by
 obtain ⟨H,enc,iO,x,U,_⟩:=h;obtain ⟨n,J,_,az⟩:=DataW.trod_int hu U;exact⟨n,J,az⟩
theorem Cells.kT (hu:P.underlying t=some .bool) (h:Cells P W t cs):∃ b:Bool,cs=[.bool b]:=by
 obtain ⟨H,enc,iO,x,U,_⟩:=h;obtain ⟨n,J,_⟩:=DataW.trod_bool hu U;exact⟨n,J⟩
theorem CU {H:Type}:∀ {ds:List (DataW H)} {d:DataW H},d ∈ ds->Rows.uptoBulk d<=Rows.uptoBulkAll ds
 | [],_,h=>by cases h
 | d0 :: ds,d,h=>by
  simp only[Rows.uptoBulkAll];rcases hX.1 h with rfl|h
  ·omega
  ·have:=CU h;omega
theorem Un (d:DataW H):1<=Rows.uptoBulk d:=by
 cases d with
 | lit l=>cases l <;> simp[Rows.uptoBulk]
 | _=>simp[Rows.uptoBulk]
theorem Hq {H:Type}:∀ (l:List (DataW H)),l.length<=Rows.uptoBulkAll l
 | []=>by simp[Rows.uptoBulkAll]
 | x :: r=>by
  have J:=Un x;have aa:=Hq r;simp only[Rows.uptoBulkAll,eb];omega
theorem Cells.w6 (hu:P.underlying t=some (.slice e)) (h:Cells P W t cs) :
  (cs=[.slice none 0 0]) \/ ∃ (a:Addr) (len cap:Nat),cs=[.slice (some a) len cap]/\len<=cap/\cap<=maxLen/\cap<=1048576 /\
   ∀ i,i<cap -> ∃ es,es.length=P.cellsOf e/\(∀ j,j<P.cellsOf e->W.cell? ((a.add (i * P.cellsOf e)).add j)=es[j]?)/\Cells P W e es:=by
 obtain ⟨H,enc,iO,x,U,hw⟩:=h;rcases open_slice hu U with ai | ⟨a,len,cap,m,n,D,Uk,hN,_,ao,hm,pE,yT,hi⟩
 ·exact .inl ai.1
 ·simp only[if_true] at pE;subst pE;subst yT;refine .inr ⟨a,len,m,hN,ao,hm,?_,fun i Hh=>?_⟩
  ·simp only[Rows.uptoBulk] at hw;have bB:=Hq ((List.range len).map D);have de:=Hq ((List.range (m - len)).map fun i=>D (len+i));simp only[bY,List.length_range] at bB de;omega
  ·obtain ⟨es,hc,ht⟩:=hi i Hh;obtain ⟨_,sd,cR⟩:=World.cells?_some hc;refine ⟨es,sd,cR,H,enc,n,_,ht,?_⟩;simp only[Rows.uptoBulk] at hw;by_cases jL:i<len
   ·have:=CU (H:=H) (ds:=(List.range len).map D) (d:=D i) (List.mem_map.2 ⟨i,List.mem_range.2 jL,rfl⟩);dsimp only;omega
   ·have:=CU (H:=H) (ds:=(List.range (m - len)).map fun j=>D (len+j)) (d:=D i) (List.mem_map.2 ⟨i - len,List.mem_range.2 (show i - len<m - len by omega),by rw[show len+(i - len)=i by omega]⟩);dsimp only;omega
theorem Cells.jn (hu:P.underlying t=some (.struct cY)) (h:Cells P W t cs) :
  cs.length=P.cellsOf t /\ ∀ (i:Nat) (f:Field),cY[i]? = some f->Cells P W f.type ((cs.drop f.offset).take (P.cellsOf f.type)):=by
 obtain ⟨H,enc,iO,x,U,hw⟩:=h;obtain ⟨xs,n,_,rfl,ao,hlen,hf⟩:=DataW.trod_struct hu U;refine ⟨ao,fun i f hi=>?_⟩;have bW:i<xs.length:=by rw[hlen];exact(gB.1 hi).1
 have J:=hf i f hi;rw[eB bW] at J;refine ⟨H,enc,n,_,J,?_⟩;simp only[Rows.uptoBulk] at hw;have:=CU (H:=H) (ds:=xs.map (·.1)) (d:=xs[i].1) (List.mem_map.2 ⟨xs[i],List.getElem_mem bW,rfl⟩);omega
theorem kb.dR (hu:P.underlying t=some (.int k)) (h:kb P W t v):∃ n,v = .int k n/\(Lit.int k n).wf=true:=by
 obtain ⟨⟨b,hb⟩,hc⟩:=h;obtain ⟨n,rfl⟩:=okWide_int hu hb;obtain ⟨yU,J,aa⟩:=hc.dR hu;simp[Value.cells] at J;subst J;exact⟨n,rfl,aa⟩
theorem kb.kT (hu:P.underlying t=some .bool) (h:kb P W t v):∃ b:Bool,v = .bool b:=by
 obtain ⟨⟨b,hb⟩,hc⟩:=h;exact okWide_bool hu hb
theorem kb.w6 (hu:P.underlying t=some (.slice e)) (h:kb P W t v):∃ a n c,v = .slice a n c/\Cells P W t [.slice a n c]:=by
 obtain ⟨⟨b,hb⟩,hc⟩:=h;obtain ⟨a,n,c,rfl⟩:=okWide_slice hu hb;exact⟨a,n,c,rfl,by simpa[Value.cells] using hc⟩
theorem kb.jn (hu:P.underlying t=some (.struct cY)) (h:kb P W t v):∃ cs:List Value,v = .agg cs.toArray/\Cells P W t cs:=by
 obtain ⟨⟨b,hb⟩,hc⟩:=h;obtain ⟨cs,rfl,_⟩:=okWide_struct hu hb;exact⟨cs.toList,by simp,by simpa[Value.cells] using hc⟩
end
theorem yV {H:Type} {enc:TypeId×Value->H} {P:Program} {W:World} :
  ∀ {ts:List TypeId} {vs:List Value} {ds:List (DataW H)} {c5:List MemPlace},(∀ (j:Nat) t v,ts[j]? = some t->vs[j]? = some v -> ∃ base,Value.okWide P W .any base t v) ->
   Rows.uptoBulkAll ds<=1048576->DataW.TrodAll enc P W 0 (fun _=>true) true ts vs ds c5->qw P W ts vs
 | [],vs,ds,c5,_,_,h=>by cases vs <;> cases ds <;> simp_all [DataW.TrodAll,qw]
 | t :: ts,vs,ds,c5,ak,hw,h=>by
  obtain ⟨v,cP,d,uv,p,q,rfl,rfl,rfl,J,aa⟩:=trodAll_cons h;refine ⟨v,cP,rfl,⟨ak 0 t v rfl rfl,?_⟩,yV (fun j np cH az bk=>ak (j+1) np cH (by simpa using az) (by simpa using bk)) (by simp only[Rows.uptoBulkAll] at hw;omega) aa⟩;obtain ⟨m,hm⟩:=J;exact⟨H,enc,m,_,hm,by simp only[Rows.uptoBulkAll] at hw;dsimp only;omega⟩
theorem Ng {C:Checked} {os:Os} {f:FuncId} {fn:Func} {s:ChangeSpec} {eJ:TypeId} {enc:TypeId×Value->H} {F:Stop.Interp} (own:ownKnob C.prog.godebug=none) (started:os.Started) (Hj:C.prog.inits.idxOf? f=none) (qx:C.prog.funcs[f]? = some fn) (witness:∃ (w:World) (tape:Tape) (i:Input),w.os=os/\(w.forCall tape i).Shaped C.prog/\i.vars=[]/\Input.okWide C.prog (w.forCall tape i) .any w.heap.size f i /\
   (Rows.OpenSpec.upto s).pre6 enc C.prog fn [] false (w.forCall tape i).memory i.args/\({}:Assume).holds C.prog (lone (Frame.enter C.prog f i.args .normal) [] (w.forCall tape i))) (ao:laidOutB C.prog=true) (w7:s.vars=[]) (Hk:∀ ds:List (DataW H),ds.length=fn.params.size->s.fn H ds={ results:=[.lit (.bool true)],args:=ds }) (CT:fn.resultTypes = #[eJ]) (hb:C.prog.underlying eJ=some .bool) (Hl:(fn.params.toList.all fun t=>C.prog.readableRec t && decide (t<C.prog.types.size))=true) (walk:∀ (W:World) (args:Array Value),qw C.prog W fn.params.toList args.toList->Calls C.prog f args W fun e pI=>e = .returned (.bool true)/\Below W.heap.size W pI) :
  ReturnsInHanded {} C os f .any ((Rows.OpenSpec.upto s).pre6 enc C.prog fn [] false) (((Rows.OpenSpec.upto s).at F).post enc C.prog fn false true false false):=by
 refine returnsInHanded_of_cond_sized (s:=Rows.OpenSpec.upto s) (k:=Rows.uptoSmall) rfl own started Hj qx witness ?_;have Hm:∀ t ∈ fn.params.toList,C.prog.readableRec t=true/\t<C.prog.types.size:=fun t ht=>by
  have:=lG.1 Hl t ht;simpa using this
 intro W base args ds gs before Ho kx _ ag _ _;have Hp:=kx;obtain ⟨p,q,dC,jl,rfl,Ul,nQ⟩:=kx;have Uo:(Rows.OpenSpec.upto s).vars=[]:=w7;rw[Uo] at jl;obtain ⟨rfl,rfl⟩:=trodVars_none jl;have hlen:ds.length=fn.params.size:=by
  have:∀ (ts:List TypeId) (vs:List Value) (ds:List (DataW H)) (c5:List MemPlace),DataW.TrodAll enc C.prog W 0 (fun _=>true) true ts vs ds c5->ds.length=ts.length:=by
   intro ts;induction ts with
   | nil=>intro vs ds c5 h;cases vs <;> cases ds <;> simp_all [DataW.TrodAll]
   | cons t ts bU=>
    intro vs ds c5 h;obtain ⟨v,cP,d,uv,p,q,rfl,rfl,rfl,J,aa⟩:=trodAll_cons h;simp[bU _ _ _ aa]
  simpa using this _ _ _ _ dC
 have Gm:Rows.uptoSmall H ds=true:=by rw[lV] at ag;exact ag
 have iT:qw C.prog W fn.params.toList args.toList:=yV (fun j t v J aa=>⟨base,Ho j t v (by simpa using J) (by simpa using aa)⟩) (of_decide_eq_true Gm) dC;refine (walk W args iT).mono fun e pI ⟨he,yW⟩=>?_
 subst he;have gv:((Rows.OpenSpec.upto s).at F).fn H (ds++[])={ results:=[.lit (.bool true)],args:=ds++[] }:=Hk (ds++[]) (by simpa using hlen);refine ⟨_,rfl,ds,[],_,[],p,[],Hp,?_,?_,?_,yW.frame _,fun h=>by cases h⟩
 ·rw[gv,CT];exact trodAll_mk1 (shut_bool hb _)
 ·rw[gv];simp only[lV];exact Hi ao yW Hm dC
 ·have Hr:((Rows.OpenSpec.upto s).at F).vars=[]:=w7;rw[Hr,gv];rfl
end Go.Proofs.YtendheafcbickaaGreat.bT
