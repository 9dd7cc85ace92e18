/-
  SEVERAL TEXTS IN ONE: each with its own comment.
-/
import Derived.Test.YtendheafcbickaaGreatCHrK
import Derived.Test.YtendheafcbickaaGreatCMg38
set_option linter.unusedVariables false
set_option linter.unusedSimpArgs false
set_option maxHeartbeats 16000000
namespace Go.Proofs.YtendheafcbickaaGreat
variable {B:Nat} {C c:aG}
section
set_option maxRecDepth 100000
attribute [local irreducible] cE a6 bu GStep Fn cg bf cA
theorem Ih (c:aG) (n:Nat) (h:¬ ((cV c n).Over=false/\(cV c n).In.bj - (cV c n).In.bQ<150)):kR c n=(c,0):=by
 unfold kR;rw[ah h]
theorem Oy (c:aG) (n:Nat) (h:(cV c n).Over=false/\(cV c n).In.bj - (cV c n).In.bQ<150):kR c n=(fE (dw c n { cV c n with In:=ri (cV c n).In }) (fK c.Queue (rh (cV c n).Id (ri (cV c n).In).bj)).1,(fK c.Queue (rh (cV c n).Id (ri (cV c n).In).bj)).2):=by
 unfold kR;rw[al h]
theorem V3 (m k:Nat) (c:aG):hV (m+1) k c=if (kR c k).2=0 then hV m (k+1) (kR c k).1 else kR c k:=rfl
theorem Oz (u:Int->Value) (c:aG) (ad:c3 c) (ao:cK B c) (C:aG) (e:Int) (ap:lb c=(C,e)) (H:List (Nat×Option aT)) (hH:(e=0/\H=[(0,some (.box 116 (a1 C (.own 3) (.own 4)))),(3,some (.row 134 16 (C.aq.map (aV u)))),(4,some (.row 111 7 (C.Queue.map aO)))])\/(e≠0/\H=[(0,some (.box 116 (a1 C (.own 3) (.own 4))))])) :
  cA Tryz.prog 64 [.ptr 0 0 0 0] [(0,some (.box 116 (a1 c (.own 1) (.own 2)))),(1,some (.row 134 16 (c.aq.map (aV u)))),(2,some (.row 111 7 (c.Queue.map aO)))] 3 (I e) H 5:=by
 have ly:=ao.eg;have hq:=ao.iK;have Ii:∀ i,i<c.aq.length->lz B (c.aq.getD i default):=fun i hi=>ao.gK _ (cc hi)
 have lB:=ad.dv;clear ad ao;unfold lb at ap;obtain ⟨aA,space,bg,bc,bp,ids,bJ,opened,aC,bF,queue,last,bK,bS,code⟩:=c;unfold a1;dsimp only at *;generalize dC:hV aC.length 0 ⟨aA,space,bg,bc,bp,ids,bJ,opened,aC,bF,queue,last,bK,bS,code⟩=A at *;obtain ⟨dH,aI⟩:=A;dsimp only at *;refine aH Tryz.func64 ?_;refine gH ((jg 1 (bq:=⟨[(0,.ptr 0 0 0 0)],[(0,some (.box 116 [ab aA,I space.Next,.ro (space.aR.map bC),I space.c9,.ro (space.cD.map aB),.ro (space.bI.map encI),I bg.bj,I bg.dy,I bg.c0,I bg.Since,I bc.Max,I bc.bG,I bp.Max,I bp.bG,I ids,I bJ,I opened,.own 3,ab bF,.own 2,I last,I bK,ab bS,I code])),(3,some (.row 134 16 (aC.map (aV u)))),(2,some (.row 111 7 (queue.map aO)))],4,Tryz.f64.ntmps⟩)).trans (jg 2 (bq:=⟨[(0,.ptr 0 0 0 0)],[(0,some (.box 116 [ab aA,I space.Next,.ro (space.aR.map bC),I space.c9,.ro (space.cD.map aB),.ro (space.bI.map encI),I bg.bj,I bg.dy,I bg.c0,I bg.Since,I bc.Max,I bc.bG,I bp.Max,I bp.bG,I ids,I bJ,I opened,.own 3,ab bF,.own 4,I last,I bK,ab bS,I code])),(3,some (.row 134 16 (aC.map (aV u)))),(4,some (.row 111 7 (queue.map aO)))],5,Tryz.f64.ntmps⟩))) ?_;(try refine ay ?_;and_intros <;> intros)
 all_goals try (exfalso;omega)
 refine cv (fun x:Nat×List cS×List bo=>⟨[(0,.ptr 0 0 0 0),(11,I aC.length),(12,I x.1)],[(0,some (.box 116 [ab aA,I space.Next,.ro (space.aR.map bC),I space.c9,.ro (space.cD.map aB),.ro (space.bI.map encI),I bg.bj,I bg.dy,I bg.c0,I bg.Since,I bc.Max,I bc.bG,I bp.Max,I bp.bG,I ids,I bJ,I opened,.own 3,ab bF,.own 4,I last,I bK,ab bS,I code])),(3,some (.row 134 16 (x.2.1.map (aV u)))),(4,some (.row 111 7 (x.2.2.map aO)))],5,Tryz.f64.ntmps⟩)
  (fun x=>x.1<=aC.length/\hV (aC.length - x.1) x.1 ⟨aA,space,bg,bc,bp,ids,bJ,opened,x.2.1,bF,x.2.2,last,bK,bS,code⟩=(dH,aI)/\x.2.1.length=aC.length/\x.2.2.length<=12 /\ ∀ i,x.1<=i->x.2.1.getD i default=aC.getD i default) (fun x=>aC.length - x.1) (0,aC,queue) ⟨cm _,dC,rfl,hq,fun i _=>rfl⟩ (by first|(exact ba)|skip) ?_
 clear dC hq;rintro ⟨k,a8,q⟩ ⟨ag,hm,hK,hq,dc⟩;dsimp only at *;by_cases au:k<aC.length
 ·obtain ⟨m,Ij⟩:∃ m,aC.length - k=m+1:=⟨aC.length - k - 1,by omega⟩;rw[Ij,V3] at hm;have Dy:aC.length - (k+1)=m:=by omega
  have U:k<a8.length:=by omega
  have cf:k<(a8.map (aV u)).length:=by rw[bY];exact U
  have cR:=gV (aV u) U;have dN:=Ii k au;have pC:=dc k (e4 _);rw[<- pC] at dN;have Dv:∀ y,∀ i,k+1<=i->(a8.set k y).getD i default=aC.getD i default:=fun y i hi=>by
   rw[<- dc i (by omega),bZ,List.getElem?_set_ne (by omega),<- bZ]
  generalize j4:a8.getD k default=x at *;obtain ⟨aZ,cx,rd,b8,fm,out⟩:=x;obtain ⟨B8,oJ,p9,_⟩:=dN;dsimp only at *;have p8:=(pr p9).1;unfold gj at p8;have cR:bb (a8.map (aV u)) k=[I aZ,I cx.bQ,.ro ((cx.aD).map b5),I (cx.c8),I (cx.bj),.lit (u aZ),ab b8,ab fm,.ro ((out.Data).map bm),ab out.Fin,I out.Next,I (out.Max),.ro ((out.cO).map aB),.ro ((out.cI).map aB),ab out.fo,ab out.Over]:=cR;by_cases hw:b8=false/\cx.bj - cx.bQ<150
  ·obtain ⟨rfl,hw⟩:=hw;rw[Oy _ _ (by unfold cV;dsimp only;rw[j4];exact⟨rfl,hw⟩)] at hm;unfold cV fE dw rh ri at hm;dsimp only at hm;rw[j4] at hm;dsimp only at hm;have kx:=TT cx (min (cx.bQ+300) 4611686018427387903) oJ;generalize oO cx (min (cx.bQ+300) 4611686018427387903)=V4 at *;obtain ⟨G,ab3⟩:=V4;dsimp only at *;have aY:=wy u ⟨aA,space,bg,bc,bp,ids,bJ,opened,(a8.set k ⟨aZ,G,rd,false,fm,out⟩),bF,q,last,bK,bS,code⟩ (⟨17,aZ,G.bj,false,0,[],[]⟩) (by exact hq);have OA:=Dz q (⟨17,aZ,G.bj,false,0,[],[]⟩) hq;unfold a1 at aY;dsimp only at aY;generalize fK q ⟨17,aZ,G.bj,false,0,[],[]⟩=T at *;obtain ⟨rP,p6⟩:=T;dsimp only at *;have fR:k<((a8.set k ⟨aZ,G,rd,false,fm,out⟩).map (aV u)).length:=by rw[bY,e1];exact U
   have fu:bb ((a8.set k ⟨aZ,G,rd,false,fm,out⟩).map (aV u)) k=[I aZ,I G.bQ,.ro ((G.aD).map b5),I (G.c8),I (G.bj),.lit (u aZ),ab false,ab fm,.ro ((out.Data).map bm),ab out.Fin,I out.Next,I (out.Max),.ro ((out.cO).map aB),.ro ((out.cI).map aB),ab out.fo,ab out.Over]:=wz (f:=aV u) U ⟨aZ,G,rd,false,fm,out⟩;by_cases tL:p6=0
   ·subst tL;rw[al rfl] at hm;(repeat' first|refine lA cf cR ?_|(refine pq 6 ?_;(and_intros <;> intros))|refine dS ?_|fail)
    all_goals try (exfalso;omega)
    all_goals (refine gW ?_;refine gU [(18,3)] ?_;(repeat' first|refine bh kx ?_|refine lA cf cR ?_|(refine lT (r:=(a8.set k ⟨aZ,G,rd,false,fm,out⟩).map (aV u)) ?_ ?_ (h:=?_);(exact gX);(exact DA))|(refine lU (r:=(a8.set k ⟨aZ,G,rd,false,fm,out⟩).map (aV u)) ?_ ?_ (h:=?_);(exact gX);(exact DA))|(refine pq 7 ?_;(and_intros <;> intros))|refine dS ?_|fail))
    all_goals (refine gW ?_;refine gU [(11,0),(11,3),(11,4)] ?_;(repeat' first|(refine dL [0,3,4] (aY) (h:=?_))|(refine fi [0,3,4] (aY) (h:=?_))|(refine gd [0,3,4] (aY) (h:=?_))|refine lA fR fu ?_|(refine eF ?_;(and_intros <;> intros))|refine dS ?_|fail))
    all_goals first
     | (exact⟨(k+1,a8.set k ⟨aZ,G,rd,false,fm,out⟩,rP),b4,OB,ba⟩)
     | (exfalso;omega)
     | skip
   ·rw[ah tL] at hm
    cases hm
    rw[ah tL] at ap
    cases ap
    rcases hH with⟨ai,_⟩ | ⟨_,rfl⟩
    ·exact absurd ai tL
    ·(repeat' first|refine lA cf cR ?_|(refine pq 6 ?_;(and_intros <;> intros))|refine dS ?_|fail)
     all_goals try (exfalso;omega)
     all_goals (refine gW ?_;refine gU [(18,3)] ?_;(repeat' first|refine bh kx ?_|refine lA cf cR ?_|(refine lT (r:=(a8.set k ⟨aZ,G,rd,false,fm,out⟩).map (aV u)) ?_ ?_ (h:=?_);(exact gX);(exact DA))|(refine lU (r:=(a8.set k ⟨aZ,G,rd,false,fm,out⟩).map (aV u)) ?_ ?_ (h:=?_);(exact gX);(exact DA))|(refine pq 7 ?_;(and_intros <;> intros))|refine dS ?_|fail))
     all_goals (refine gW ?_;refine gU [(11,0),(11,3),(11,4)] ?_;(repeat' first|(refine dL [0,3,4] (aY) (h:=?_))|(refine fi [0,3,4] (aY) (h:=?_))|(refine gd [0,3,4] (aY) (h:=?_))|refine lA fR fu ?_|(refine eF ?_;(and_intros <;> intros))|refine dS ?_|fail))
     all_goals first|exact ed|skip
  ·rw[Ih _ _ (by unfold cV;dsimp only;rw[j4];exact hw)] at hm;dsimp only at hm;rw[al rfl] at hm
   cases b8
   ·have hw:¬ cx.bj - cx.bQ<150:=fun h=>hw ⟨rfl,h⟩
    (repeat' first|refine lA cf cR ?_|refine gU [] (h:=?_)|(refine eF ?_;(and_intros <;> intros))|refine dS ?_|fail)
    all_goals first|exact Ik|skip
   ·(repeat' first|refine lA cf cR ?_|refine gU [] (h:=?_)|(refine eF ?_;(and_intros <;> intros))|refine dS ?_|fail)
    all_goals first|exact Ik|skip
 ·have ca:k=aC.length:=by omega
  subst ca;rw[ra] at hm;unfold hV at hm
  cases hm
  rw[al rfl] at ap;dsimp only at ap;unfold gT at lB;by_cases hh:bc.Max - bc.bG<350
  ·rw[al hh] at ap;unfold fE dM sa qu at ap;have fS:=LF bc (min (bc.bG+700) 4611686018427387903);generalize k7 bc (min (bc.bG+700) 4611686018427387903)=V5 at *;obtain ⟨yp,uA⟩:=V5;dsimp only at *;have aY:=wy u ⟨aA,space,bg,yp,bp,ids,bJ,opened,a8,bF,q,last,bK,bS,code⟩ (⟨16,0,yp.Max,false,0,[],[]⟩) (by exact hq);unfold a1 at aY;dsimp only at aY;generalize fK q ⟨16,0,yp.Max,false,0,[],[]⟩=T at *;obtain ⟨rP,p6⟩:=T;dsimp only at *
   cases ap
   rcases hH with⟨_,rfl⟩ | ⟨_,rfl⟩
   ·(repeat' first|(refine dL [0,3,4] (aY) (h:=?_))|(refine fi [0,3,4] (aY) (h:=?_))|(refine gd [0,3,4] (aY) (h:=?_))|refine bh fS ?_|(refine ay ?_;(and_intros <;> intros))|fail)
    all_goals first|exact ed|skip
   ·(repeat' first|(refine dL [0,3,4] (aY) (h:=?_))|(refine fi [0,3,4] (aY) (h:=?_))|(refine gd [0,3,4] (aY) (h:=?_))|refine bh fS ?_|(refine ay ?_;(and_intros <;> intros))|fail)
    all_goals first|exact ed|skip
  ·rw[ah hh] at ap
   cases ap
   rcases hH with⟨_,rfl⟩ | ⟨h,_⟩
   ·(try refine ay ?_;and_intros <;> intros)
    all_goals first|exact ed|skip
   ·exact absurd rfl h
end
section
set_option maxRecDepth 100000
def dE:Int->Value:=fun _=>oR
theorem xv (w:Int->Value) (u:Int->Value):∀ (l:List cS) (vs:Nat->Value),(∀ i,i<l.length->u (l.getD i default).Id=vs i)->dB 5 (fun i=>.lit (vs i)) (l.map (aV w))=l.map (aV u)
 | [],_,_=>rfl
 | x :: r,vs,h=>by
  have ai:u x.Id=vs 0:=h 0 (by simp);have bU:=xv w u r (fun i=>vs (i+1)) (fun i hi=>h (i+1) (by simp;omega));show(aV w x).set 5 (.lit (vs 0)) :: dB 5 (fun i=>.lit (vs (i+1))) (r.map (aV w))=aV u x :: r.map (aV u);rw[bU];unfold aV;rw[ai];rfl
def o2 (l:List cS) (v:Nat->Value) (id:Int):Value:=if b7 l id<l.length then v (b7 l id) else oR
theorem DB {l:List cS} {i:Nat} (h:∀ i,i<l.length->lm l i<(l.getD i default).Id) (hi:i<l.length):b7 l (l.getD i default).Id=i:=by
 have hle:¬ i<b7 l (l.getD i default).Id:=fun q=>Il l _ i q rfl
 have br:=DC l (l.getD i default).Id (by omega);by_cases e:b7 l (l.getD i default).Id=i
 ·exact e
 ·have:=V6 h (b7 l (l.getD i default).Id) i (by omega) hi;omega
theorem DD (h:cK B c) {id:Int} (hid:c.cN<=id):¬ b7 c.aq id<c.aq.length:=fun q=>by
 have br:=DC c.aq id q;have:=(h.lD _ q).2;omega
def bV (c:aG) (i:Nat):List (List V):=if i<c.aq.length then(c.aq.getD i default).Read.map bm else[]
theorem DE (h:ig c C) (i:Nat):bV C i=bV c i:=by
 obtain ⟨J,aa,az,bk⟩:=h;unfold bV;by_cases hi:i<c.aq.length
 ·rw[al hi,al (by omega),(aa i hi).2]
 ·rw[ah hi];by_cases dZ:i<C.aq.length
  ·rw[al dZ,(az i (by omega) dZ).2];rfl
  ·rw[ah dZ]
def cM (k:Nat) (l:List cS):List (List V):=dB 5 (fun i=>.own (k+i)) (l.map (aV dE))
theorem yD {P:Program} {fn:FuncId} {args:List V} {r:V} {TE TL TQ TB:TypeId} (ao:cK B c) (V7:C.aq.length<=4) (ag:ig c C) (iT:cz.ej jA args=args) (qv:∀ u:Int->Value,(∀ i,c.cN<=i->u i = .slice none 0 0)->cA P fn args [(0,some (.box TE (a1 c (.own 1) (.own 2)))),(1,some (.row TL 16 (c.aq.map (aV u)))),(2,some (.row TQ 7 (c.Queue.map aO)))] 3 r
   [(0,some (.box TE (a1 C (.own 3) (.own 4)))),(3,some (.row TL 16 (C.aq.map (aV u)))),(4,some (.row TQ 7 (C.Queue.map aO)))] 5) :
  cA P fn args [(0,some (.box TE (a1 c (.own 1) (.own 2)))),(1,some (.ch TL 16 (cM 3 c.aq))),(2,some (.row TQ 7 (c.Queue.map aO))),(3,some (.row TB 1 (bV c 0))),(4,some (.row TB 1 (bV c 1))),(5,some (.row TB 1 (bV c 2))),(6,some (.row TB 1 (bV c 3)))] 7
   (cz jA r) [(0,some (.box TE (a1 C (.own 7) (.own 8)))),(7,some (.ch TL 16 (cM 9 C.aq))),(8,some (.row TQ 7 (C.Queue.map aO))),(9,some (.row TB 1 (bV C 0))),(10,some (.row TB 1 (bV C 1))),(11,some (.row TB 1 (bV C 2))),(12,some (.row TB 1 (bV C 3)))] 13:=by
 have ti:∀ i,i<c.aq.length->lm c.aq i<(c.aq.getD i default).Id:=fun i hi=>(ao.lD i hi).1
 have ar:∀ (l:List cS) i,i<(l.map (aV dE)).length->(bb (l.map (aV dE)) i).length=16/\(bb (l.map (aV dE)) i).all hQ=true:=fun l i hi=>by
  rw[bY] at hi;rw[gV (aV dE) hi];exact⟨rfl,rfl⟩
 have h:=OC (P:=P) (f:=fn) (args:=args) (r:=r) (TE:=TE) (TL:=TL) (TQ:=TQ) (TB:=TB) (s:=16) (sq:=7) (c:=5) (bx:=a1 c (.own 1) (.own 2)) (nA:=a1 C (.own 3) (.own 4)) (q:=c.Queue.map aO) (sy:=C.Queue.map aO)
  (A:=c.aq.map (aV dE)) (ol:=C.aq.map (aV dE)) (R:=bV c) (fun v ak=>by
   rw[bY] at ak;have aI:=xv dE (o2 c.aq v) c.aq v (fun i hi=>by unfold o2;rw[DB ti hi,al hi])
   have a7:=xv dE (o2 c.aq v) C.aq v (fun i hi=>by
    by_cases hc:i<c.aq.length
    ·rw[(ag.2.1 i hc).1];unfold o2;rw[DB ti hc,al hc]
    ·unfold o2;rw[ah (DD ao (ag.2.2.1 i (by omega) hi).1),ak i (by omega)])
   rw[aI,a7]
   exact qv _ (fun id hid=>by unfold o2;rw[ah (DD ao hid)];rfl))
  (by rw[bY];exact ao.eg) (by rw[bY];exact V7) (ar c.aq) (ar C.aq) (fun i hi=>by rw[bY] at hi;unfold bV;rw[ah (by omega)]) iT rfl
 rw[DE ag,DE ag,DE ag,DE ag];exact h
theorem V8 (c:aG) (f:bo) (now:Int) (ad:c3 c) (ao:cK B c) (an:B<=16777216) (hf:dx f) (hd:f.Data.length<=120) (q4:f.aP<=4611686018427387903) (ib:f.Kind≠8) (hs:f.Kind≠28) (C:aG) (ap:gY c f now=(C,0)) (TB:TypeId) :
  cA Tryz.prog 63 [.ptr 0 0 0 0,.agg (aO f),I now] [(0,some (.box 116 (a1 c (.own 1) (.own 2)))),(1,some (.ch 134 16 (cM 3 c.aq))),(2,some (.row 111 7 (c.Queue.map aO))),(3,some (.row TB 1 (bV c 0))),(4,some (.row TB 1 (bV c 1))),(5,some (.row TB 1 (bV c 2))),(6,some (.row TB 1 (bV c 3)))] 7
   (I 0) [(0,some (.box 116 (a1 C (.own 7) (.own 8)))),(7,some (.ch 134 16 (cM 9 C.aq))),(8,some (.row 111 7 (C.Queue.map aO))),(9,some (.row TB 1 (bV C 0))),(10,some (.row TB 1 (bV C 1))),(11,some (.row TB 1 (bV C 2))),(12,some (.row TB 1 (bV C 3)))] 13:=by
 have hi:=yB (now:=now) ad ao an hf hd q4;have ag:=V9 c f now ib hs;rw[ap] at hi ag;exact yD ao (hi.2.2 rfl).eg ag rfl (fun u hu=>G6 u c f now ad ao an hf hu ib C 0 ap _ (.inl ⟨rfl,rfl⟩))
theorem Vd (c:aG) (ad:c3 c) (ao:cK B c) (C:aG) (ap:lb c=(C,0)) (TB:TypeId) :
  cA Tryz.prog 64 [.ptr 0 0 0 0] [(0,some (.box 116 (a1 c (.own 1) (.own 2)))),(1,some (.ch 134 16 (cM 3 c.aq))),(2,some (.row 111 7 (c.Queue.map aO))),(3,some (.row TB 1 (bV c 0))),(4,some (.row TB 1 (bV c 1))),(5,some (.row TB 1 (bV c 2))),(6,some (.row TB 1 (bV c 3)))] 7
   (I 0) [(0,some (.box 116 (a1 C (.own 7) (.own 8)))),(7,some (.ch 134 16 (cM 9 C.aq))),(8,some (.row 111 7 (C.Queue.map aO))),(9,some (.row TB 1 (bV C 0))),(10,some (.row TB 1 (bV C 1))),(11,some (.row TB 1 (bV C 2))),(12,some (.row TB 1 (bV C 3)))] 13:=by
 have hi:=HN ad ao;have ag:=Wa c;rw[ap] at hi ag;exact yD ao (hi.2.2 rfl).eg ag rfl (fun u hu=>Oz u c ad ao C 0 ap _ (.inl ⟨rfl,rfl⟩))
end
end Go.Proofs.YtendheafcbickaaGreat
