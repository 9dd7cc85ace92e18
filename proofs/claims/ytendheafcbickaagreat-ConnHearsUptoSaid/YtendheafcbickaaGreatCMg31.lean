/-
  SEVERAL TEXTS IN ONE: each with its own comment.
-/
import Derived.Test.YtendheafcbickaaGreatCMg32
import Derived.Test.YtendheafcbickaaGreatCHrA
set_option linter.unusedVariables false
set_option linter.unusedSimpArgs false
set_option maxHeartbeats 16000000
namespace Go.Proofs.YtendheafcbickaaGreat
variable {B bd by_ d e i id j n t:Nat} {l m:List V} {m1 m2 op:Int} {rG xX:IntKind} {vs:Nat->V} {x:Operand} {y:cS} {z:Value}
section
open Go.RowKit
def oR:Value:=.slice none 0 0
def dB (c:Nat) (vs:Nat->V):List (List V)->List (List V)
 | []=>[]
 | x :: r=>x.set c (vs 0) :: dB c (fun i=>vs (i+1)) r
theorem kw (c:Nat):∀ (A:List (List V)) (vs:Nat->V),(dB c vs A).length=A.length
 | [],_=>rfl
 | x :: r,vs=>by simp only[dB,eb,kw c r]
theorem tH (c:Nat):∀ (A:List (List V)) (vs:Nat->V) (i:Nat),i<A.length->bb (dB c vs A) i=(bb A i).set c (vs i)
 | [],_,i,h=>by simp at h
 | x :: r,vs,0,_=>rfl
 | x :: r,vs,i+1,h=>by
  have:=tH c r (fun i=>vs (i+1)) i (by simpa using h);exact this
theorem G4 (l:List V) (c:Nat) (v:V) (j:Nat) (ad:j<l.length):bw (l.set c v) j=if j=c then v else bw l j:=by
 unfold bw;rw[bZ,bZ,nU];by_cases h:c=j
 ·subst h;simp[ad]
 ·rw[ah h,ah (fun e=>h e.symm)]
theorem Hc {c:Nat} {A:List (List V)} {s:Nat} (hi:i<A.length) (ao:(bb A i).length=s) (ad:j<s):bw (bb (dB c vs A) i) j=if j=c then vs i else bw (bb A i) j:=by
 rw[tH c A vs i hi,G4 _ _ _ _ (by omega)]
theorem Hb {c:Nat} {A:List (List V)} (hi:i<A.length):(bb (dB c vs A) i).length=(bb A i).length:=by
 rw[tH c A vs i hi,e1]
theorem Nf (h:l.all hQ=true) (ad:j<l.length):hQ (bw l j)=true:=by
 rw[lG] at h;refine h _ ?_;unfold bw;rw[bZ,eB ad];exact List.getElem_mem ad
theorem Nd {F base:Nat->Prop} {ρ:Nat->Option Value} {heap:List (Nat×Option aT)} {next:Nat} {w0 w:World} {B bd:aT} (hH:eA F base ρ heap next w0 w) (hh:aM heap id=some B) (ae:B.owns=true) (dK:bd.owns=true) (h:rq base ρ (bs F ρ heap) w id B->rq base ρ (bs F ρ heap) w id bd):eA F base ρ ((id,some bd) :: heap) next w0 w/\bs F ρ ((id,some bd) :: heap)=bs F ρ heap:=by
 have hS:bs F ρ ((id,some bd) :: heap)=bs F ρ heap:=funext fun b=>propext ⟨fun h=>⟨h.1,fun j C u dZ pb hu=>by
   by_cases e:id=j
   ·subst e;rw[hh] at dZ;injection dZ with dZ;subst dZ;exact h.2 id bd u (by rw[cl,al rfl]) dK hu
   ·exact h.2 j C u (by rw[cl,ah e];exact dZ) pb hu⟩,fun h=>⟨h.1,fun j C u dZ pb hu=>by
   rw[cl] at dZ;split at dZ
   ·rename_i e;subst e;exact h.2 id B u hh ae hu
   ·exact h.2 j C u dZ pb hu⟩⟩
 refine ⟨⟨⟨hH.below,hH.fl,hH.sup,fun i j C rB u dD b dZ vR pb Kb hu c2 hb cG=>?_,fun j C dZ=>?_⟩,hH.dX⟩,hS⟩
 ·rw[cl] at dZ vR;have g:∃ C,aM heap i=some C/\C.owns=true:=by
   split at dZ
   ·rename_i e;subst e;exact⟨B,hh,ae⟩
   ·exact⟨C,dZ,pb⟩
  have DJ:∃ C,aM heap j=some C/\C.owns=true:=by
   split at vR
   ·rename_i e;subst e;exact⟨B,hh,ae⟩
   ·exact⟨rB,vR,Kb⟩
  obtain ⟨D,d1,d2⟩:=g;obtain ⟨Kc,Kd,Ke⟩:=DJ;exact hH.inj i j D Kc u dD b d1 Kd d2 Ke hu c2 hb cG
 ·rw[hS];rw[cl] at dZ;split at dZ
  ·rename_i e;subst e;injection dZ with dZ;subst dZ;exact h (hH.cJ _ _ hh)
  ·exact hH.cJ j C dZ
section
variable {P:Program} {f:FuncId} {args:List V} {r:V} {TE TL TQ TB:TypeId} {s sq c:Nat} {bx nA:List V} {q sy A ol:List (List V)} {R:Nat->List (List V)}
abbrev jA:Nat->Nat:=cp [0,1,2,7,8] 9
set_option maxRecDepth 10000
theorem OC (qv:∀ u:Nat->Value,(∀ i,A.length<=i->u i=oR)->cA P f args [(0,some (.box TE bx)),(1,some (.row TL s (dB c (fun i=>.lit (u i)) A))),(2,some (.row TQ sq q))] 3 r [(0,some (.box TE nA)),(3,some (.row TL s (dB c (fun i=>.lit (u i)) ol))),(4,some (.row TQ sq sy))] 5) (dC:A.length<=4) (acP:ol.length<=4) (ar:∀ i,i<A.length->(bb A i).length=s/\(bb A i).all hQ=true) (Rf:∀ i,i<ol.length->(bb ol i).length=s/\(bb ol i).all hQ=true) (ap:∀ i,A.length<=i->R i=[]) (iT:cz.ej jA args=args) (G8:cz.ej jA bx=bx) :
  cA P f args [(0,some (.box TE bx)),(1,some (.ch TL s (dB c (fun i=>.own (3+i)) A))),(2,some (.row TQ sq q)),(3,some (.row TB 1 (R 0))),(4,some (.row TB 1 (R 1))),(5,some (.row TB 1 (R 2))),(6,some (.row TB 1 (R 3)))] 7
   (cz jA r) [(0,some (.box TE (cz.ej jA nA))),(7,some (.ch TL s (dB c (fun i=>.own (9+i)) ol))),(8,some (.row TQ sq sy)),(9,some (.row TB 1 (R 0))),(10,some (.row TB 1 (R 1))),(11,some (.row TB 1 (R 2))),(12,some (.row TB 1 (R 3)))] 13:=by
 refine ⟨(qv (fun _=>oR) (fun _ _=>rfl)).1,by omega,fun F base w0 ρ w fQ cZ hH G9=>?_⟩;obtain ⟨u,hu⟩:∃ u:Nat->Value,u=fun i=>if i<A.length then(ρ (3+i)).getD oR else oR:=⟨_,rfl⟩
 have u1:∀ i,i<4 -> ∃ v,ρ (3+i)=some v:=by
  intro i hi;rcases (show i=0\/i=1\/i=2\/i=3 by omega) with rfl|rfl|rfl|rfl
  ·obtain ⟨_,v,xs,J,_⟩:=hH.cJ 3 (.row TB 1 (R 0)) rfl;exact⟨v,J⟩
  ·obtain ⟨_,v,xs,J,_⟩:=hH.cJ 4 (.row TB 1 (R 1)) rfl;exact⟨v,J⟩
  ·obtain ⟨_,v,xs,J,_⟩:=hH.cJ 5 (.row TB 1 (R 2)) rfl;exact⟨v,J⟩
  ·obtain ⟨_,v,xs,J,_⟩:=hH.cJ 6 (.row TB 1 (R 3)) rfl;exact⟨v,J⟩
 have w4:∀ i,i<A.length->ρ (3+i)=some (u i):=fun i hi=>by
  obtain ⟨v,ak⟩:=u1 i (by omega);rw[hu];simp only[al hi,ak,tn]
 have nB:∀ i,A.length<=i->u i=oR:=fun i hi=>by rw[hu];simp only[ah (show ¬ i<A.length by omega)]
 have Nc:∀ i,(u i).oneCell' = true:=fun i=>by
  by_cases hi:i<A.length
  ·exact(hH.sup _ _ (w4 i hi)).2
  ·rw[nB i (by omega)];rfl
 obtain ⟨yO,Ha⟩:=Nd (bd:=.row TL s (dB c (fun i=>.lit (u i)) A)) hH (id:=1) rfl rfl rfl (fun h=>by
  obtain ⟨ai,v,xs,J,aa,az,bk⟩:=h;rw[kw] at aa az bk;refine ⟨ai,v,xs,J,by rw[kw];exact aa,fun i hi=>?_,fun i j hi ad=>?_⟩
  ·rw[kw] at hi;rw[Hb hi];exact(ar i hi).1
  ·rw[kw] at hi;obtain ⟨x,ew,er,eK⟩:=bk i j hi ad;refine ⟨x,ew,?_,eK⟩;rw[Hc hi (ar i hi).1 ad] at er ⊢;by_cases ob:j=c
   ·rw[al ob] at er ⊢;have:=j8 er;rw[w4 i hi] at this;injection this with this;rw[this];exact .lit x eK
   ·rw[ah ob] at er ⊢
    exact yP er (Nf (ar i hi).2 (by rw[(ar i hi).1];exact ad)))
 generalize CQ:([(0,some (.box TE bx)),(1,some (.ch TL s (dB c (fun i=>.own (3+i)) A))),(2,some (.row TQ sq q)),(3,some (.row TB 1 (R 0))),(4,some (.row TB 1 (R 1))),(5,some (.row TB 1 (R 2))),(6,some (.row TB 1 (R 3)))]:List (Nat×Option aT))=yQ at *;have jl:∀ v,v ∈ [7,8]->ρ v=none:=fun v ak=>ql hH.sup (by simp at ak;omega)
 have hY:ρ 9=none:=ql hH.sup (by omega);have hh:∀ id B,aM [(0,some (.box TE bx)),(1,some (.row TL s (dB c (fun i=>.lit (u i)) A))),(2,some (.row TQ sq q))] id=some B->id<[0,1,2].length/\aM ((1,some (.row TL s (dB c (fun i=>.lit (u i)) A))) :: yQ) (cp ([0,1,2]++[7,8]) 9 id)=some (jm (cp ([0,1,2]++[7,8]) 9) B):=fun id B an=>by
  rw[cl,cl,cl] at an;subst CQ;split at an
  ·rename_i e;subst e;injection an with an;subst an;refine ⟨by decide,?_⟩;show some (aT.box TE bx)=some (.box TE (cz.ej jA bx));rw[G8]
  ·split at an
   ·rename_i e;subst e;injection an with an;subst an;exact⟨by decide,rfl⟩
   ·split at an
    ·rename_i e;subst e;injection an with an;subst an;exact⟨by decide,rfl⟩
    ·simp[aM] at an
 refine ((qv u nB).2.2 _ _ w _ w fQ cZ (Hd (M:=[0,1,2]) (V:=[7,8]) yO rfl jl hY hh) (fun j ad=>?_)).mono ?_
 ·have h:=G9 j ad;have e:bw args j=cz jA (bw args j):=by
   have:=mR (m:=jA) ad;rw[iT] at this;exact this
  rw[e] at h;exact yR (fun b h _=>CR hh (by rw[Ha];exact h)) (fun i u hu=>yS jl hY hu) h
 ·rintro e aF ⟨v,bl,rfl,aL,aS,bi⟩;obtain ⟨dg,db,gq,ka,hj,tp⟩:=He (M:=[0,1,2]) (V:=[7,8]) (mS:=13) yO rfl jl (fun v ak=>by simp at ak;omega) (by omega) hY hh rfl (fun p ar=>by simp at ar;rcases ar with rfl|rfl|rfl <;> simp) aL bi;generalize Hf:mT ρ bl [0,1,2].length [7,8]=oS at *;have hold:∀ id,id ∉ [7,8]->oS id=ρ id:=fun id h=>by rw[<- Hf];exact w5 h
  have vT:∀ i,i<A.length->oS (3+i)=some (u i):=fun i hi=>by
   rw[hold _ (by simp;omega)];exact w4 i hi
  have iI:∀ id,9<=id->oS id=none:=fun id hid=>by
   rw[hold _ (by simp;omega)];exact ql hH.sup (by omega)
  obtain ⟨Z,jU⟩:∃ Z,Z=hA (cp ([0,1,2]++[7,8]) 9) [(0,some (.box TE nA)),(3,some (.row TL s (dB c (fun i=>.lit (u i)) ol))),(4,some (.row TQ sq sy))]++(hO [0,1,2]++(1,some (.row TL s (dB c (fun i=>.lit (u i)) A))) :: yQ):=⟨_,rfl⟩;rw[<- jU] at dg db gq;have z0:aM Z 0=some (.box TE (cz.ej jA nA)):=by rw[jU];rfl
  have Rg:aM Z 7=some (.row TL s (dB c (fun i=>.lit (u i)) ol)):=by rw[jU];rfl
  have Rh:aM Z 8=some (.row TQ sq sy):=by rw[jU];rfl
  have Ri:∀ i,i<4->aM Z (3+i)=some (.row TB 1 (R i)):=fun i hi=>by
   rw[jU];subst CQ;rcases (show i=0\/i=1\/i=2\/i=3 by omega) with rfl|rfl|rfl|rfl <;> rfl
  obtain ⟨um,E3⟩:∃ um:Nat->Option Value,um=fun id=>if 9<=id/\id<13 then some (u (id - 9)) else oS id:=⟨_,rfl⟩
  have nN:∀ id,id<9->um id=oS id:=fun id h=>by rw[E3];simp only[ah (show ¬ (9<=id/\id<13) by omega)]
  have k3:∀ i,i<4->um (9+i)=some (u i):=fun i h=>by rw[E3];simp only[al (show 9<=9+i/\9+i<13 by omega)];rw[Nat.add_sub_cancel_left]
  have E4:∀ id x,oS id=some x->um id=some x:=fun id x h=>by
   by_cases hid:id<9
   ·rw[nN id hid];exact h
   ·rw[iI id (by omega)] at h;cases h
  generalize aaj:([(0,some (.box TE (cz.ej jA nA))),(7,some (.ch TL s (dB c (fun i=>.own (9+i)) ol))),(8,some (.row TQ sq sy)),(9,some (.row TB 1 (R 0))),(10,some (.row TB 1 (R 1))),(11,some (.row TB 1 (R 2))),(12,some (.row TB 1 (R 3)))]:List (Nat×Option aT))=KJ;have my:∀ id B,aM KJ id=some B->(id=0/\B = .box TE (cz.ej jA nA))\/(id=7/\B = .ch TL s (dB c (fun i=>.own (9+i)) ol))\/(id=8/\B = .row TQ sq sy) \/ ∃ i,i<4/\id=9+i/\B = .row TB 1 (R i):=fun id B an=>by
   subst aaj;simp only[cl] at an;split at an
   ·rename_i e;injection an with an;exact .inl ⟨e.symm,an.symm⟩
   ·split at an
    ·rename_i e;injection an with an;exact .inr (.inl ⟨e.symm,an.symm⟩)
    ·split at an
     ·rename_i e;injection an with an;exact .inr (.inr (.inl ⟨e.symm,an.symm⟩))
     ·split at an
      ·rename_i e;injection an with an;exact .inr (.inr (.inr ⟨0,by omega,e.symm,an.symm⟩))
      ·split at an
       ·rename_i e;injection an with an;exact .inr (.inr (.inr ⟨1,by omega,e.symm,an.symm⟩))
       ·split at an
        ·rename_i e;injection an with an;exact .inr (.inr (.inr ⟨2,by omega,e.symm,an.symm⟩))
        ·split at an
         ·rename_i e;injection an with an;exact .inr (.inr (.inr ⟨3,by omega,e.symm,an.symm⟩))
         ·simp[aM] at an
  have aU:∀ id B x b,aM KJ id=some B->um id=some x->dU x=some b -> ∃ k bd,((k=id/\(id=0\/id=7\/id=8)) \/ ∃ i,i<4/\id=9+i/\k=3+i)/\aM Z k=some bd /\ bd.owns=true/\oS k=some x:=fun id B x b an U hb=>by
   rcases my id B an with⟨rfl,rfl⟩ | ⟨rfl,rfl⟩ | ⟨rfl,rfl⟩ | ⟨i,hi,rfl,rfl⟩
   ·exact⟨0,_,.inl ⟨rfl,.inl rfl⟩,z0,rfl,by rw[<- nN 0 (by omega)];exact U⟩
   ·exact⟨7,_,.inl ⟨rfl,.inr (.inl rfl)⟩,Rg,rfl,by rw[<- nN 7 (by omega)];exact U⟩
   ·exact⟨8,_,.inl ⟨rfl,.inr (.inr rfl)⟩,Rh,rfl,by rw[<- nN 8 (by omega)];exact U⟩
   ·rw[k3 i hi] at U;injection U with U;by_cases jL:i<A.length
    ·exact⟨3+i,_,.inr ⟨i,hi,rfl,rfl⟩,Ri i hi,rfl,by rw[vT i jL,U]⟩
    ·rw[nB i (by omega)] at U;rw[<- U] at hb;cases hb
  have gu:∀ b,bs F oS Z b->bs F um KJ b:=fun b h=>⟨h.1,fun id B x an ae U hb=>by
   obtain ⟨k,bd,_,de,fJ,jI⟩:=aU id B x b an U hb
   exact h.2 k bd x de fJ jI hb⟩
  refine ⟨v,um,rfl,⟨⟨dg.below,dg.fl,fun id x U=>?_,fun id dk B bd x mU b an b0 ae dK U qM hb cG=>?_,fun id B an=>?_⟩,dg.dX⟩,(tq (fun b h ao=>gq b h ao) hj aS).mono (dl.refl _ _) (fun b h _=>gu b h) E4,fun id hid=>?_⟩
  ·by_cases nC:9<=id/\id<13
   ·rw[E3] at U;simp only[al nC,ck] at U;exact⟨nC.2,by rw[<- U];exact Nc _⟩
   ·rw[E3] at U;simp only[ah nC] at U;exact dg.sup id x U
  ·obtain ⟨k,C,bB,de,fJ,jI⟩:=aU id B x b an U hb;obtain ⟨j,rB,oI,Rj,Rk,KK⟩:=aU dk bd mU b b0 qM cG;have:=dg.inj k j C rB x mU b de Rj fJ Rk jI KK hb cG;rcases bB with⟨bB,mC⟩ | ⟨i,i1,i2,i3⟩ <;> rcases oI with⟨oI,Rl⟩ | ⟨zY,acQ,acR,acS⟩ <;> omega
  ·rcases my id B an with⟨rfl,rfl⟩ | ⟨rfl,rfl⟩ | ⟨rfl,rfl⟩ | ⟨i,hi,rfl,rfl⟩
   ·exact(dg.cJ 0 _ z0).mono (dl.refl _ _) (fun b h _=>gu b h) E4 (fun _ _ _ _ _ _=>rfl)
   ·obtain ⟨ai,v,xs,J,aa,az,bk⟩:=dg.cJ 7 _ Rg;rw[kw] at aa az bk;refine ⟨ai,v,xs,E4 _ _ J,by rw[kw];exact aa,fun i hi=>?_,fun i j hi ad=>?_⟩
    ·rw[kw] at hi;rw[Hb hi];exact(Rf i hi).1
    ·rw[kw] at hi;obtain ⟨x,ew,er,eK⟩:=bk i j hi ad;refine ⟨x,ew,?_,eK⟩;rw[Hc hi (Rf i hi).1 ad] at er ⊢;by_cases ob:j=c
     ·rw[al ob] at er ⊢
      cases er
      exact .own (k3 i (by omega))
     ·rw[ah ob] at er ⊢;exact .pure (er.mono (dl.refl _ _) (fun b h _=>gu b h))
   ·exact(dg.cJ 8 _ Rh).mono (dl.refl _ _) (fun b h _=>gu b h) E4 (fun _ _ _ _ _ _=>rfl)
   ·by_cases jL:i<A.length
    ·obtain ⟨ai,v,xs,J,aa,az,bk⟩:=dg.cJ (3+i) _ (Ri i hi);rw[vT i jL] at J
     exact⟨ai,v,xs,by rw[k3 i hi];exact J,aa,az,fun i j hi ad=>by
      obtain ⟨x,ew,er,eK⟩:=bk i j hi ad
      exact⟨x,ew,er.mono (dl.refl _ _) (fun b h _=>gu b h),eK⟩⟩
    ·rw[ap i (by omega)];exact⟨Nat.zero_lt_one,oR,[],by rw[k3 i hi,nB i (by omega)],⟨⟨rfl,.inl ⟨rfl,rfl⟩⟩,fun b hb=>by cases hb⟩,fun i hi=>by simp at hi,fun i j hi=>by simp at hi⟩
  ·rw[nN id (by omega)];exact hold id (by simp;omega)
end
section
variable {P:Program} {o:Oper} {st:aW}
theorem aak {k:Nat} {y:Operand} (ae:o.op = .makeSlice t x y) (hd:o.dst=some d) (aN:Nat.blt d st.af=true) (U:aJ st.env x=some (.lit (.int xX m1))) (aj:aJ st.env y=some (.lit (.int rG m2))) (J:m1=(n:Int)) (aa:m2=(n:Int)) (ht:P.underlying t=some (.slice e)) (aw:dr P e=some 1) (hb:jw P e=some by_) (aU:gZ P e=some [.lit z]) (fp:by_ * n<=281474976710656) (h63:n<=9223372036854775807):kU P k o st { env:=(d,.ro (List.replicate n [.lit z])) :: st.env,heap:=st.heap,next:=st.next,af:=st.af }:=by
 refine KL (fun Bu=>?_);refine KM (aal ae hd aN U aj J aa ht aw hb aU fp h63) ?_ rfl rfl;have J:cg P st.next { env:=(d,.own k) :: st.env,heap:=(k,some (.row e 1 (List.replicate n [.lit z]))) :: st.heap,next:=st.next,af:=st.af } _:=oB (id:=k) (e:=e) (s:=1) (l:=List.replicate n [.lit z]) (by simp[aM])
 refine J.trans ?_;have aa:cg P st.next { env:=(d,.own k) :: st.env,heap:=(k,some (.dY (List.replicate n [.lit z]))) :: (k,some (.row e 1 (List.replicate n [.lit z]))) :: st.heap,next:=st.next,af:=st.af } _:=KN (t:=d) (id:=k) (l:=List.replicate n [.lit z]) (by simp[cW]) (by simp[aM])
 refine aa.trans ?_;refine KO rfl rfl (fun t v ak=>?_) (fun j B an=>?_)
 ·simp only[cW] at ak ⊢
  cases hb:Nat.beq d t with
  | true=>rw[hb] at ak;exact ak
  | false=>rw[hb] at ak;exact ak
 ·have ct:k≠j:=fun e=>by rw[<- e,Bu] at an;cases an
  show aM ((k,some (aT.dY (List.replicate n [.lit z]))) :: (k,some (aT.row e 1 (List.replicate n [.lit z]))) :: st.heap) j=_;rw[cl,ah ct,cl,ah ct];exact an
end
section
variable {P:Program} {o:Oper} {af aA k bn:Nat} {ops:List Oper} {W:Nat->Nat->Bool} {rest:List Oper} {env:List (Nat×V)} {heap:List (Nat×Option aT)} {Q:aW->Prop}
theorem BZ {y:Operand} {r:List (List V)} (n:Nat) (J:m1=(n:Int)) (aa:m2=(n:Int)) (hr:List.replicate n [.lit z]=r) (fp:by_ * n<=281474976710656) (h63:n<=9223372036854775807) (ae:o.op = .makeSlice t x y:=by rfl) (U:aJ (bt (looks ops o) env) x=some (.lit (.int xX m1)):=by rfl) (aj:aJ (bt (looks ops o) env) y=some (.lit (.int rG m2)):=by rfl) (ht:P.underlying t=some (.slice e):=by rfl) (aw:dr P e=some 1:=by rfl) (hb:jw P e=some by_:=by rfl) (aU:gZ P e=some [.lit z]:=by rfl) (av:b1 (bt (looks ops o) env) ops o.guard=some true:=by rfl) (hd:o.dst=some d:=by rfl) (aN:Nat.blt d af=true:=by rfl) (ag:k+1=bn:=by(simp only[Nat.reduceAdd];rfl)) (cG:Nat.ble aA k=true:=by rfl) (h:bf P af aA ops W bn rest ((d,.ro r) :: env) heap Q):bf P af aA ops W k (o :: rest) env heap Q:=by
 subst hr;exact rD (Hn:=[]) (H:=[]) av hd ag cG (fun id B h=>by cases h) (fun id h=>(sI h).elim) (fun N fW cB ax hH=>aak (st:=⟨fW,cB,N,af⟩) ae hd aN (kB ax U) (kB ax aj) J aa ht aw hb aU fp h63) h
end
theorem XI {inv:Nat->Option Nat} {heap:List (Nat×Option aT)} {s c:Nat} {A:List (List V)} {cP:Nat->V} (ar:∀ i,i<A.length->(bb A i).all hQ=true) (h:∀ i,i<A.length->e6 inv heap (vs i)=some (cP i)):pg inv heap (.ch e s (dB c vs A)) (.ch e s (dB c cP A)):=by
 refine .inr ⟨e,s,_,_,rfl,rfl,by rw[kw,kw],fun i hi=>?_⟩;rw[kw] at hi;rw[tH c A vs i hi,tH c A cP i hi];exact Me (h i hi) (ar i hi)
theorem pq (n:Nat) {A R S:Prop} (r:S) (k:Je n->(eX R->A)/\fN R S:=by intro Xu;(refine And.intro (fun sK=>?_) ?_;(focus ((repeat1' first|refine AH (h:=?_)|refine AI (h:=?_)|refine PF cu (by rfl) ?_|refine nW ?_|refine rM rfl ?_|refine ng rfl ?_|refine DS ?_|refine DP ?_|refine DQ ?_|refine DR ?_|refine zT ?_|refine Ab (h:=?_)|refine Aj (h:=?_)|refine Ad (h:=?_)|refine AJ (h:=?_)|refine Ac (h:=?_)|(refine Ai (ht:=?_) (hf:=?_) <;> intro bO <;> try (exfalso;omega))|refine Am (h:=?_)|refine Al (h:=?_)|refine Ak (h:=?_)|refine AK (h:=?_)|refine AL (h:=?_)|refine Eg ?_|refine Av ?_|refine Aw (h:=?_)|refine AB (h:=?_)|refine AD (h:=?_)|refine AM (h:=?_)|refine Ay (h:=?_)|refine Az (h:=?_)|(refine AA (ht:=?_) (hf:=?_) <;> intro bO <;> try (exfalso;omega))|refine AG (h:=?_)|refine AF (h:=?_)|refine AE (h:=?_)|refine Ax (h:=?_)|refine AN (h:=?_)|refine AO (h:=?_)|refine AP (h:=?_)|refine AQ (h:=?_)|refine AR (h:=?_)|refine AS (h:=?_)|(refine AT (ht:=?_) (hf:=?_) <;> intro bO <;> try (exfalso;first|omega|(simp at bO;done)|exact absurd bO cu|exact absurd cu iH))|(refine AU (ht:=?_) (hf:=?_) <;> intro bO <;> try (exfalso;first|omega|(simp at bO;done)|exact absurd bO cu|exact absurd cu iH))|(refine AV (ht:=?_) (hf:=?_) <;> intro bO <;> try (exfalso;first|omega|(simp at bO;done)|exact absurd bO cu|exact absurd cu iH))|(refine AW (ht:=?_) (hf:=?_) <;> intro bO <;> try (exfalso;first|omega|(simp at bO;done)|exact absurd bO cu|exact absurd cu iH))|(refine AX (ht:=?_) (hf:=?_) <;> intro bO <;> try (exfalso;first|omega|(simp at bO;done)|exact absurd bO cu|exact absurd cu iH))|(refine AY (ht:=?_) (hf:=?_) <;> intro bO <;> try (exfalso;first|omega|(simp at bO;done)|exact absurd bO cu|exact absurd cu iH))|refine nX ?_|refine D2 ?_|refine D3 ?_|refine D4 ?_|refine D5 ?_|refine D6 ?_|refine D7 rfl ?_|refine AZ (h:=?_)|refine A0 (h:=?_)|(refine A1 (h63:=?_) (h:=?_);(exact lK))|(refine A2 (h63:=?_) (h:=?_);(exact lK))|refine A3 (h:=?_)|refine A4 (h:=?_)|refine A5 (h:=?_)|refine y7 (h:=?_)|refine y8 (h:=?_)|(refine A6 (ht:=?_) (hf:=?_) <;> intro bO <;> try (exfalso;simp at bO;done))|(refine A7 (ht:=?_) (hf:=?_) <;> intro bO <;> try (exfalso;simp at bO;done))|(refine A8 (ht:=?_) (hf:=?_) <;> intro bO <;> try (exfalso;simp at bO;done))|(refine A9 (ht:=?_) (hf:=?_) <;> intro bO <;> try (exfalso;simp at bO;done))|fail);all_goals ((repeat revert bO);(refine hC sK ?_;(repeat' first|with_reducible apply (dF.here (r:=_))|apply (dF.next (r:=_)))))));all_goals try exact hD)):A:=(k ⟨trivial⟩).1 ⟨(k ⟨trivial⟩).2.back r⟩
inductive ps:List V->List V->Prop
 | nil:ps [] []
 | cons {a b:V} {l m:List V} (h:qb a b) (t:ps l m):ps (a :: l) (b :: m)
theorem ps.len (h:ps l m):m.length=l.length:=by
 induction h with
 | nil=>rfl
 | cons _ _ bU=>simp[bU]
theorem ps.at (h:ps l m):∀ j,j<l.length->qb (bw l j) (bw m j):=by
 induction h with
 | nil=>intro j ad;simp at ad
 | cons h _ bU=>
  intro j ad
  cases j with
  | zero=>exact h
  | succ j=>
   rw[IP,IP];exact bU j (by simp at ad;omega)
theorem xq (l:List (List V)) (n i:Nat) (c:List V) (hi:i<l.length):bb (l.set n c) i=if n=i then c else bb l i:=by
 unfold bb;rw[bZ,bZ,nU];by_cases h:n=i
 ·subst h;rw[al rfl,al hi,al rfl];rfl
 ·rw[ah h,ah h]
theorem FK {P:Program} {st:aW} {α:Type} {f:α->List V} {s n0:Nat} {L E5:List α} {y:α} {c:List V} (hh:aM st.heap id=some (.row e s ((L.map f).set n c))) (cw:L.set n y=E5) (hc:ps c (f y)):cg P n0 st { st with heap:=(id,some (.row e s (E5.map f))) :: st.heap }:=by
 subst cw;have aI:(L.set n y).map f=(L.map f).set n (f y):=by rw[q3]
 rw[aI];refine QG hh (by simp) (fun i hi=>?_) (fun i j hi ad=>?_)
 ·rw[e1] at hi;rw[xq _ _ _ _ hi,xq _ _ _ _ hi];split
  ·exact hc.len
  ·rfl
 ·rw[e1] at hi;rw[xq _ _ _ _ hi] at ad ⊢;rw[xq _ _ _ _ hi];split
  ·rename_i h;rw[al h] at ad;exact hc.at j ad
  ·exact .inl rfl
end
section
set_option maxRecDepth 100000
attribute [local irreducible] cE a6 bu GStep Fn cg bf cA
theorem Oh (p:gA) (n s t:Int) (hw:h2 p):h2 (qd p n s t).1:=by
 unfold qd;split
 ·unfold h2 aE;dsimp only;omega
 ·rename_i h;obtain ⟨ae,ao⟩:=w2 (p:=p) (l:=[n,s,t]) (by omega);have br:=ao n (by simp);have hb:=ao s (by simp);have hc:=ao t (by simp);unfold mQ at br hb hc;unfold mP at ae;unfold h2 aE at hw;split
  ·unfold h2 aE;dsimp only;omega
  ·split
   ·unfold h2 aE;dsimp only;omega
   ·unfold h2 aE;dsimp only;omega
theorem KP {f:bo} {n:Int} (hf:dx f) (h:aE n):dx (uK f n):=⟨hf.1,hf.2.1,h,hf.2.2.2.1,hf.2.2.2.2.1,hf.2.2.2.2.2.1,hf.2.2.2.2.2.2⟩
theorem aam {c:aG} {f:bo} (hw:fw c) (hf:dx f) (U:f.Kind=17->b7 c.aq f.Id<c.aq.length):dx (uJ c f):=by
 unfold uJ;split
 ·exact KP hf hw.2.2.1.1
 ·split
  ·exact KP hf hw.2.2.2.2.2.1
  ·split
   ·rename_i h;have:=hw.2.2.2.2.2.2.2.2.1 _ (cc (U h));exact KP hf this.2.1.2.2.2.2
   ·exact hf
theorem aan {c:aG} {f:bo} (hw:fw c) (hf:dx f):∀ y,y ∈ (nl c f).1->dx y:=by
 have KQ:=hw.2.2.2.2.2.2.2.2.2.2.1;have hle:=q7 c.aq f.Id;unfold nl;split
 ·exact KQ
 ·split
  ·exact KQ
  ·rename_i h
   exact YI _ _ KQ (aam hw hf (fun qc=>by
    rcases Nat.lt_or_ge (b7 c.aq f.Id) c.aq.length with J|J
    ·exact J
    ·exact absurd ⟨qc,.inl (by omega)⟩ h))
theorem VX {c:aG} {f:bo} (hw:fw c) (fG:mh c.aq) (bk:c.aq.length<=4) (hq:c.Queue.length<=12) (hf:dx f) :
  fw (ml c (iV c f).1 (iV c f).2.1)/\mh (iV c f).1/\(iV c f).1.length<=4/\(iV c f).2.1.length<=12:=by
 have jo:=hw;obtain ⟨w0,c4,du,w3,e9,fa,gy,hL,ki,oK,kj,lW,lX,nV⟩:=jo;have same:fw (ml c c.aq c.Queue)/\mh c.aq/\c.aq.length<=4/\c.Queue.length<=12:=⟨hw,fG,bk,hq⟩;unfold iV;split
 ·split
  ·rename_i U;split
   ·rename_i ai;have aw:=Gc (fG _ (cc U)).2.2.2 ai;have ao:=L4 fG U aw;exact⟨⟨w0,c4,du,w3,e9,fa,gy,by unfold ml;dsimp only;rw[e1];exact hL,fun y aj=>W.Dj y (ao y aj),oK,kj,lW,lX,nV⟩,ao,by dsimp only;rw[e1];exact bk,hq⟩
   ·exact same
  ·exact same
 ·split
  ·have fF:=L6 (c:=c) (f:=f) hq;have a2:=aan hw hf;exact⟨⟨w0,c4,du,w3,e9,fa,gy,hL,ki,by unfold ml;dsimp only;omega,a2,lW,lX,nV⟩,fG,bk,fF⟩
  ·exact same
theorem aao (c:aG) (f:bo):aE (iV c f).2.2:=by
 unfold iV;split
 ·split
  ·split
   ·unfold aE;dsimp only;omega
   ·dsimp only;unfold mj;split
    ·rcases xP (mI c f.Id).Out f.aP f.Data.length f.Fin with⟨ai,e⟩ | ⟨_,h,c6,e⟩ | ⟨ai,bP,ar,e⟩ <;> (rw[e];unfold aE;dsimp only;first|omega|(have:=r6 (mI c f.Id).Out;omega))
    ·unfold aE;dsimp only;omega
  ·unfold aE;dsimp only;omega
 ·split
  ·dsimp only;unfold nl;split
   ·unfold aE;dsimp only;omega
   ·split
    ·unfold aE;dsimp only;omega
    ·unfold fK;split
     ·unfold aE;dsimp only;omega
     ·split <;> (unfold aE;dsimp only;omega)
  ·unfold aE;dsimp only;omega
theorem Rm:∀ (l:List bo) (c:aG),aE (j7 c l).2
 | [],c=>by unfold j7 aE;dsimp only;omega
 | f :: l,c=>by
  unfold j7;split
  ·exact Rm l _
  ·exact aao c f
theorem Qc {now:Int}:∀ (l:List eN) (c:aG),aE (jN now c l).2
 | [],c=>by unfold jN aE;dsimp only;omega
 | p :: l,c=>by
  unfold jN;split
  ·exact Qc l _
  ·exact Rm _ _
def vt (e:Int):List V:=[I 28,I 0,I 0,ab false,I e,aX,aX]
theorem On (e:Int):∀ i j,i<[vt e].length->j<(bb [vt e] i).length->qb (bw (bb [vt e] i) j) (bw (bb ([sw e].map aO) i) j):=by
 intro i j hi ad;obtain rfl:i=0:=by simp at hi;omega
 have ad:j<7:=ad
 match j,ad with
 | 0,_|1,_|2,_|3,_|4,_=>exact .inl rfl
 | 5,_|6,_=>exact .inr ⟨rfl,rfl⟩
 | n+7,h=>omega
theorem Om (e:Int):∀ i,i<[vt e].length->(bb ([sw e].map aO) i).length=(bb [vt e] i).length:=by
 intro i hi;obtain rfl:i=0:=by simp at hi;omega
 rfl
theorem NM (c:aG) (e:Int) :
  cA Tryz.prog 65 [.ptr 0 0 0 0,I e] [(0,some (.box 116 (a1 c (.own 1) (.own 2))))] 3
   (.bN []) [(0,some (.box 116 [ab c.Client,I c.aQ.Next,.ro (c.aQ.aR.map bC),I c.aQ.c9,.ro (c.aQ.cD.map aB),.ro (c.aQ.bI.map encI),I c.cy.bj,I c.cy.dy,I c.cy.c0,I c.cy.Since,I c.di.Max,I c.di.bG,I c.eh.Max,I c.eh.bG,I c.gQ,I c.gR,I c.cN,aX,ab false,.ro ([sw e].map aO),I c.dT,I c.gP,ab true,I e]))] 3:=by
 unfold a1;refine aH Tryz.func65 ?_;(repeat' first|refine cb (hq:=j5 rfl rfl rfl rfl) (h:=?_)|(refine tJ (h:=?_);refine C1 (Ol 16 (l:=[vt e]) (dW:=[sw e].map aO) rfl rfl (Om e) (On e)) ?_)|(refine eF ?_;(and_intros <;> intros))|refine dS ?_|fail)
 all_goals first|exact nY|skip
end
section
set_option maxRecDepth 100000
def lz (B:Nat) (y:cS):Prop:=aE y.Id/\ga y.In/\ev y.In=0/\eL y.In.aD<=B/\bT.hg y.Out/\(0<=y.Out.Next/\y.Out.Next<=y.Out.Data.length/\y.Out.Data.length<=600)/\y.Read.length<=800
structure c3 (c:aG):Prop where
 op:0<=c.cN/\c.cN<=4611686018427387904
 jf:0<=c.gR/\c.gR<=4611686018427387903
 id:0<=c.gQ/\c.gQ<=4611686018427387903
 dv:gT c.di
 mg:gT c.eh
 sp:bT.gM c.aQ
 lC:h2 c.cy
 a8:0<=c.dT/\c.dT<=1099511627776
 h7:0<=c.gP/\c.gP<=4
 n2:aE c.Code
structure cK (B:Nat) (c:aG):Prop where
 eg:c.aq.length<=4
 lD:∀ i,i<c.aq.length->lm c.aq i<(c.aq.getD i default).Id/\(c.aq.getD i default).Id<c.cN
 gK:∀ y ∈ c.aq,lz B y
 iK:c.Queue.length<=12
 nn:∀ y ∈ c.Queue,bT.dx y
def oj (B:Nat) (r:aG×Int):Prop:=c3 r.1/\aE r.2/\(r.2=0->cK B r.1)
theorem aap {id:Int} (h:aE id):lz B (jj id):=by
 unfold lz jj;refine ⟨h,by unfold ga aE;simp,(by show ev ⟨0,[],-1,300⟩=0;decide),cm _,?_,by simp,by simp⟩;unfold bT.hg aE;simp
theorem aaq (h:lz B y) (hb:B<=bd):lz bd y:=⟨h.1,h.2.1,h.2.2.1,qJ h.2.2.2.1 hb,h.2.2.2.2⟩
theorem cK.mono {c:aG} (h:cK B c) (hb:B<=bd):cK bd c:=⟨h.eg,h.lD,fun y aj=>aaq (h.gK y aj) hb,h.iK,h.nn⟩
theorem Rn (h:lz B y) (an:B<=16777216):W.jK y:=by
 obtain ⟨J,aa,az,bk,dG,h9,oP⟩:=h;obtain ⟨hh,_⟩:=pr az;unfold gj at hh;refine ⟨J,⟨aa.1,by omega,fun p ar=>?_,aa.2.2.2.1,aa.2.2.2.2⟩,by omega,dG⟩;have:=wV ar;exact⟨(aa.2.2.1 p ar).1,by omega⟩
theorem cK.mh {c:aG} (h:cK B c) (an:B<=16777216):mh c.aq:=fun y aj=>Rn (h.gK y aj) an
theorem si {c:aG} (ad:c3 c) (h:cK B c) (an:B<=16777216):W.fw c:=by
 obtain ⟨oI,Rj,Rk,KK,Rl,aar,aas,acT,acU,aat⟩:=ad;unfold gT at KK Rl;have bk:=h.eg;have lx:=h.iK;refine ⟨aar,aas,⟨by unfold aE;omega,by unfold aE;omega⟩,⟨by unfold aE;omega,by unfold aE;omega⟩,by unfold aE;omega,by unfold aE;omega,by unfold aE;omega,by omega,fun y aj=>Rn (h.gK y aj) an,by omega,h.nn,by unfold aE;omega,by unfold aE;omega,aat⟩
theorem V6 {l:List cS} (h:∀ i,i<l.length->lm l i<(l.getD i default).Id):∀ i j,i<j->j<l.length->(l.getD i default).Id<(l.getD j default).Id:=by
 intro i j xB ad;induction j with
 | zero=>omega
 | succ n bU=>
  have J:=h (n+1) ad;rw[Cd] at J;by_cases e:i=n
  ·subst e;exact J
  ·have:=bU (by omega) (by omega);omega
theorem aau {l:List cS} (hn:n<l.length) (aj:y.Id=(l.getD n default).Id) (h:∀ i,i<l.length->lm l i<(l.getD i default).Id/\(l.getD i default).Id<op) :
  ∀ i,i<(l.set n y).length->lm (l.set n y) i<((l.set n y).getD i default).Id/\((l.set n y).getD i default).Id<op:=by
 have key:∀ i,((l.set n y).getD i default).Id=(l.getD i default).Id:=fun i=>by
  rw[bZ,bZ,nU];by_cases e:n=i
  ·subst e;rw[al rfl,al hn];rw[bZ] at aj;exact aj
  ·rw[ah e]
 intro i hi;rw[e1] at hi;rw[key];have J:=h i hi;refine ⟨?_,J.2⟩;have aa:=J.1;unfold lm at aa ⊢;split
 ·rename_i ai;rw[al ai] at aa;exact aa
 ·rename_i ai;rw[ah ai] at aa;rw[key];exact aa
theorem vG {c:aG} (h:cK B c) (hn:n<c.aq.length) (aj:y.Id=(cV c n).Id) (ao:lz B y):cK B (dw c n y):=by
 refine ⟨by unfold dw;dsimp only;rw[e1];exact h.eg,aau hn aj h.lD,fun z aU=>?_,h.iK,h.nn⟩;rcases vo aU with aU|aU
 ·exact h.gK z aU
 ·exact aU ▸ ao
theorem aav {l:List bo} {f y:bo} (aj:y ∈ (fK l f).1):y ∈ l\/y=f:=by
 unfold fK at aj;split at aj
 ·exact vo aj
 ·split at aj
  ·exact .inl aj
  ·rcases gr.1 aj with h|h
   ·exact .inl h
   ·rw[iX] at h;exact .inr h
theorem Bd {c:aG} {f:bo} (h:cK B c) (hf:bT.dx f):cK B (fE c (fK c.Queue f).1):=
 ⟨h.eg,h.lD,h.gK,Dz _ _ h.iK,fun y aj=>(aav aj).elim (h.nn y) (fun e=>e ▸ hf)⟩
theorem Eu (l:List bo) (f:bo):(fK l f).2=0\/(fK l f).2=8:=by
 unfold fK;split
 ·exact .inl rfl
 ·split
  ·exact .inr rfl
  ·exact .inl rfl
theorem xQ {c:aG} (h:c3 c):c3 (dw c n y):=⟨h.op,h.jf,h.id,h.dv,h.mg,h.sp,h.lC,h.a8,h.h7,h.n2⟩
theorem Et {c:aG} {q:List bo} (h:c3 c):c3 (fE c q):=⟨h.op,h.jf,h.id,h.dv,h.mg,h.sp,h.lC,h.a8,h.h7,h.n2⟩
theorem aaw {l:List cS} (h:∀ i,i<l.length->lm l i<(l.getD i default).Id/\(l.getD i default).Id<op) (ai:0<=op):∀ i,i<(l++[jj op]).length->lm (l++[jj op]) i<((l++[jj op]).getD i default).Id/\((l++[jj op]).getD i default).Id<op+1:=by
 have key:∀ i,i<l.length->(l++[jj op]).getD i default=l.getD i default:=fun i hi=>by
  rw[bZ,bZ,sh hi]
 intro i hi;simp only[eE,eb,fg] at hi;by_cases jL:i<l.length
 ·rw[key i jL];have J:=h i jL;refine ⟨?_,by omega⟩;have aa:=J.1;unfold lm at aa ⊢;split
  ·rename_i e;rw[al e] at aa;exact aa
  ·rename_i e;rw[ah e] at aa;rw[key _ (by omega)];exact aa
 ·have e:i=l.length:=by omega
  subst e;have a7:(l++[jj op]).getD l.length default=jj op:=by
   rw[bZ,sg (e4 _),ra];rfl
  rw[a7];refine ⟨?_,?_⟩
  ·show _<op;unfold lm;split
   ·omega
   ·rename_i ct;rw[key _ (by omega)];exact(h (l.length - 1) (by omega)).2
  ·show op<op+1;omega
theorem aax {c:aG} (ad:c3 c) (h:cK B c) (bk:c.aq.length<4):cK B (kJ c):=by
 unfold kJ;refine ⟨by simp;omega,aaw h.lD ad.op.1,fun y aj=>?_,h.iK,h.nn⟩;rcases gr.1 aj with aj|aj
 ·exact h.gK y aj
 ·rw[iX] at aj;subst aj;exact aap (by have:=ad.op;unfold aE;omega)
theorem Ro {B:Nat} {id:Int}:∀ (m:Nat) {c:aG},c3 c->cK B c->m=4 - c.aq.length->id<4611686018427387904->c3 (lh m c id).1/\cK B (lh m c id).1/\((lh m c id).2=0\/(lh m c id).2=8)/\(lh m c id).1.Queue=c.Queue
 | 0,c,ad,h,_,_=>by
  unfold lh;refine ⟨ad,h,?_,rfl⟩;dsimp only;split
  ·exact .inr rfl
  ·exact .inl rfl
 | m+1,c,ad,h,hm,hid=>by
  unfold lh;split
  ·rename_i fb;have o1:c3 (kJ c):=⟨by have:=ad.op;unfold kJ;dsimp only;omega,ad.jf,ad.id,ad.dv,ad.mg,ad.sp,ad.lC,ad.a8,ad.h7,ad.n2⟩;exact Ro m o1 (aax ad h (by omega)) (by unfold kJ;simp;omega) hid
  ·exact⟨ad,h,.inl rfl,rfl⟩
theorem q1 {c:aG} {id:Int} (ad:c3 c) (h:cK B c):c3 (eV c id).1/\cK B (eV c id).1/\aE (eV c id).2/\(eV c id).1.Queue=c.Queue:=by
 unfold eV;split
 ·refine ⟨ad,h,?_,rfl⟩;dsimp only;split <;> (unfold aE;omega)
 ·split
  ·exact⟨ad,h,by unfold aE;dsimp only;omega,rfl⟩
  ·rename_i av;obtain ⟨fF,a2,a3,a4⟩:=Ro (4 - c.aq.length) ad h rfl (by have:=ad.jf;omega:id<4611686018427387904);exact⟨fF,a2,by unfold aE;omega,a4⟩
end
section
set_option maxRecDepth 100000
attribute [local irreducible] cE a6 bu GStep Fn cg bf cA
theorem FL (g:dQ) (h:ev g=0):Fn Tryz.prog 246 [.agg (e5 g)] (I (eO g)):=by
 obtain ⟨hh,hm⟩:=wk h;unfold gj at hh;unfold eO;by_cases hn:0<g.aD.length
 ·rw[al hn];have ar:=hm _ (cc (k:=g.aD.length - 1) (by omega));clear hm h;refine aH Tryz.func246 ?_;(try refine ay ?_;and_intros <;> intros)
  all_goals first
   | exact bX (hr:=rfl)
   | (exfalso;omega)
   | skip
 ·rw[ah hn];clear hm h;refine aH Tryz.func246 ?_;(try refine ay ?_;and_intros <;> intros)
  all_goals first
   | exact bX (hr:=rfl)
   | (exfalso;omega)
   | skip
theorem vk (c:aG) (id:Int):lh 0 c id=(c,if c.cN<=id then 8 else 0):=rfl
theorem vl (m:Nat) (c:aG) (id:Int):lh (m+1) c id=if c.cN<=id then lh m (kJ c) id else(c,0):=rfl
theorem wx (u:Int->Value) (c:aG) (id:Int) (ao:c.aq.length<=4) (ae:0<=c.cN) (av:c.gR<=4611686018427387903) (hu:∀ i,c.cN<=i->u i = .slice none 0 0) (C:aG) (e:Int) (ap:eV c id=(C,e)) (r:V) (hr:(e≠0/\r = .lit (.pointer none))\/(e=0/\b7 C.aq id<C.aq.length/\r = .ptr 3 (b7 C.aq id) 16 0)\/(e=0 /\ ¬ b7 C.aq id<C.aq.length/\r = .lit (.pointer none))) :
  cA Tryz.prog 245 [.ptr 0 0 0 0,I id] [(0,some (.box 116 (a1 c (.own 1) (.own 2)))),(1,some (.row 134 16 (c.aq.map (aV u)))),(2,some (.row 111 7 (c.Queue.map aO)))] 3 (.bN [r,I e]) [(0,some (.box 116 (a1 C (.own 3) (.own 4)))),(3,some (.row 134 16 (C.aq.map (aV u)))),(4,some (.row 111 7 (C.Queue.map aO)))] 5:=by
 unfold eV at ap;obtain ⟨aA,space,bg,bc,bp,ids,bJ,opened,aC,bF,queue,last,bK,bS,code⟩:=c;unfold a1;dsimp only at *
 cases aA
 ·rw[ah iS] at ap;by_cases oH:bJ<=id
  ·rw[al oH] at ap
   cases ap
   rcases hr with⟨_,rfl⟩ | ⟨h,_⟩ | ⟨h,_⟩
   ·refine aH Tryz.func245 ?_;refine PO ?_;(try refine ay ?_;and_intros <;> intros)
    all_goals first|exact ed|skip
   ·omega
   ·omega
  ·rw[ah oH] at ap;refine aH Tryz.func245 ?_;refine PO ?_;(try refine ay ?_;and_intros <;> intros)
   all_goals try (exfalso;omega)
   refine cv (fun x:List cS×Int=>⟨[(0,.ptr 0 0 0 0),(1,I id)],[(0,some (.box 116 [ab false,I space.Next,.ro (space.aR.map bC),I space.c9,.ro (space.cD.map aB),.ro (space.bI.map encI),I bg.bj,I bg.dy,I bg.c0,I bg.Since,I bc.Max,I bc.bG,I bp.Max,I bp.bG,I ids,I bJ,I x.2,.own 3,ab bF,.own 4,I last,I bK,ab bS,I code])),(3,some (.row 134 16 (x.1.map (aV u)))),(4,some (.row 111 7 (queue.map aO)))],5,Tryz.f245.ntmps⟩)
    (fun x=>x.1.length<=4/\0<=x.2/\opened<=x.2/\lh (4 - x.1.length) ⟨false,space,bg,bc,bp,ids,bJ,x.2,x.1,bF,queue,last,bK,bS,code⟩ id=(C,e)) (fun x=>4 - x.1.length) (aC,opened) ⟨ao,ae,Int.le_refl _,ap⟩ fP ?_
   clear ap;rintro ⟨a8,op⟩ ⟨ao,ae,aay,ap⟩;dsimp only at *;by_cases fb:op<=id
   ·by_cases bk:a8.length=4
    ·rw[show 4 - a8.length=0 by omega,vk,al fb] at ap
     cases ap
     rcases hr with⟨_,rfl⟩ | ⟨h,_⟩ | ⟨h,_⟩
     ·(try refine ay ?_;and_intros <;> intros)
      all_goals first|exact ed|skip
     ·omega
     ·omega
    ·obtain ⟨m,hm⟩:∃ m,4 - a8.length=m+1:=⟨3 - a8.length,by omega⟩;rw[hm,vl,al fb] at ap;have oi:=Tb u ⟨false,space,bg,bc,bp,ids,bJ,op,a8,bF,queue,last,bK,bS,code⟩ b4 (by unfold aE;dsimp only;omega) b4 (hu op aay);unfold kJ at oi ap;unfold a1 at oi;dsimp only at oi ap;(repeat' first|(refine dL [0,3,4] (oi) (h:=?_))|(refine fi [0,3,4] (oi) (h:=?_))|(refine gd [0,3,4] (oi) (h:=?_))|(refine ay ?_;(and_intros <;> intros))|fail)
     all_goals first
      | (exact⟨(a8++[jj op],op+1),H0,(by exact⟨by simp only[eE,eb,fg];omega,by omega,by omega,by(simp only[eE,eb,fg];rw[show 4 - (a8.length+(0+1))=m by omega];exact ap)⟩),ba⟩)
      | (exfalso;omega)
      | skip
   ·have zs:⟨false,space,bg,bc,bp,ids,bJ,op,a8,bF,queue,last,bK,bS,code⟩=C/\(0:Int)=e:=by
     cases hm:4 - a8.length with
     | zero=>rw[hm,vk,ah fb] at ap;cases ap;exact⟨rfl,rfl⟩
     | succ m=>rw[hm,vl,ah fb] at ap;cases ap;exact⟨rfl,rfl⟩
    obtain ⟨rfl,rfl⟩:=zs;clear ap;have c1:=yt u ⟨false,space,bg,bc,bp,ids,bJ,op,a8,bF,queue,last,bK,bS,code⟩ id b4;unfold s7 a1 at c1;dsimp only at c1 hr;rcases hr with⟨h,_⟩ | ⟨_,U,rfl⟩ | ⟨_,U,rfl⟩
    ·exact absurd rfl h
    ·rw[al U] at c1;(refine Jf ?_;and_intros <;> intros)
     all_goals first|exact ed|skip
    ·rw[ah U] at c1;(refine Jf ?_;and_intros <;> intros)
     all_goals first|exact ed|skip
 ·rw[al rfl] at ap;by_cases fb:opened<=id
  ·rw[al fb] at ap
   cases ap
   rcases hr with⟨_,rfl⟩ | ⟨h,_⟩ | ⟨h,_⟩
   ·refine aH Tryz.func245 ?_;refine PP ?_;(try refine ay ?_;and_intros <;> intros)
    all_goals first|exact ed|skip
   ·omega
   ·omega
  ·rw[ah fb] at ap
   cases ap
   have c1:=yt u ⟨true,space,bg,bc,bp,ids,bJ,opened,aC,bF,queue,last,bK,bS,code⟩ id b4;unfold s7 a1 at c1;dsimp only at c1 hr;rcases hr with⟨h,_⟩ | ⟨_,U,rfl⟩ | ⟨_,U,rfl⟩
   ·exact absurd rfl h
   all_goals
    first|rw[al U] at c1|rw[ah U] at c1
    refine aH Tryz.func245 ?_;refine PP ?_;(try refine ay ?_;and_intros <;> intros)
    all_goals try (exfalso;omega)
    refine cv (fun _:Unit=>⟨[(0,.ptr 0 0 0 0),(1,I id)],[(0,some (.box 116 [ab true,I space.Next,.ro (space.aR.map bC),I space.c9,.ro (space.cD.map aB),.ro (space.bI.map encI),I bg.bj,I bg.dy,I bg.c0,I bg.Since,I bc.Max,I bc.bG,I bp.Max,I bp.bG,I ids,I bJ,I opened,.own 3,ab bF,.own 4,I last,I bK,ab bS,I code])),(3,some (.row 134 16 (aC.map (aV u)))),(4,some (.row 111 7 (queue.map aO)))],5,Tryz.f245.ntmps⟩) (fun _=>True) (fun _=>0) () trivial fP ?_;rintro ⟨⟩ -;(refine Jf ?_;and_intros <;> intros)
    all_goals first|exact ed|skip
end
end Go.Proofs.YtendheafcbickaaGreat
