
import Derived.Test.YtendheafcbickaaGreatCMg49
set_option linter.unusedVariables false
set_option linter.unusedSimpArgs false
set_option maxHeartbeats 16000000
namespace Go.Proofs.YtendheafcbickaaGreat
section
variable {B:Nat}
set_option maxRecDepth 100000
attribute [local irreducible] cE a6 bu GStep Fn cg bf cA
theorem SP (c:aG) (f:bo) (now:Int) (ad:c3 c) (ao:cK B c) (an:B<=16777216) (gw:dx f) (hff:gx f=0) (hd:f.Data.length<=120) (ag:f.Kind=17) (C:aG) (e:Int) (ap:iU p7 c f=(C,e)) :
  Fn Tryz.prog 69 [.agg (cj c),.agg (aO f),I now] (.bN [.agg (cj C),I e]):=by
 have q4:=sX hff;obtain ⟨oI,fv,i1,_⟩:=q1 (id:=f.Id) ad ao;unfold iU at ap;obtain ⟨k8,fL⟩:∃ k8:Int,k8=if (eV c f.Id).2=0 then(if b7 (eV c f.Id).1.aq f.Id<(eV c f.Id).1.aq.length then(b7 (eV c f.Id).1.aq f.Id:Int) else -1) else -1:=⟨_,rfl⟩;have iL:=B7 c f.Id ao.eg ad.op.1 ad.jf.2 (eV c f.Id).1 (eV c f.Id).2 rfl k8 fL;generalize eV c f.Id=K at *;obtain ⟨dH,aI⟩:=K;clear ad ao hff;obtain ⟨a0,fF,a2,a3,a4,a5,FN,FO,FP,a9,FQ,FR,a12,FT,FU⟩:=c;obtain ⟨cF,cn,cL,fin,dj,dI,dh⟩:=f;obtain ⟨aA,space,bg,bc,bp,ids,bJ,opened,aC,bF,queue,last,bK,bS,code⟩:=dH;dsimp only at *;subst ag;unfold cj at iL;(try dsimp only at iL);by_cases ai:aI=0
 ·subst ai;rw[al rfl] at ap fL;by_cases U:b7 aC cn<aC.length
  ·rw[al U] at ap fL;subst fL;have dN:=fv.gK _ (cc U);have ly:=fv.eg;have hq:=fv.iK;(try dsimp only at dN ly hq);generalize b7 aC cn=n at *;obtain ⟨B8,oJ,p9,B9,wC,_⟩:=dN;have fS:=SQ (aC.getD n default).Out cL wC gw.2.2.1;have gu:=fun S=>uB ⟨aA,space,bg,bc,bp,ids,bJ,opened,aC,bF,queue,last,bK,bS,code⟩ n ⟨(aC.getD n default).Id,(aC.getD n default).In,(aC.getD n default).Read,(aC.getD n default).Over,(aC.getD n default).Cut,S⟩ b4 U
   clear gw oJ p9 B9 wC oI fv;unfold p7 cV dw at ap;(try dsimp only at ap);generalize mE (aC.getD n default).Out cL=R at *;obtain ⟨S,ge⟩:=R;have gu:=gu S;unfold dw cj at gu;dsimp only at *;by_cases LL:ge=0
   ·subst LL;rw[al rfl] at ap
    cases ap
    unfold aO;(try unfold cj);(try dsimp only);refine aH Tryz.func69 ?_;(refine pt iL fS gu ?_;and_intros <;> intros)
    all_goals first|exact gL|skip
   ·rw[ah LL] at ap
    cases ap
    unfold aO;(try unfold cj);(try dsimp only);refine aH Tryz.func69 ?_;(refine jJ iL fS ?_;and_intros <;> intros)
    all_goals first|exact gL|skip
  ·rw[ah U] at ap fL;subst fL
   cases ap
   unfold aO;(try unfold cj);(try dsimp only);refine aH Tryz.func69 ?_;(refine bH iL ?_;and_intros <;> intros)
   all_goals first|exact gL|skip
 ·rw[ah ai] at ap fL;subst fL
  cases ap
  unfold aO;(try unfold cj);(try dsimp only);refine aH Tryz.func69 ?_;(refine bH iL ?_;and_intros <;> intros)
  all_goals first|exact gL|skip
theorem SR (c:aG) (f:bo) (now:Int) (ad:c3 c) (ao:cK B c) (an:B<=16777216) (gw:dx f) (hff:gx f=0) (hd:f.Data.length<=120) (ag:f.Kind=4) (C:aG) (e:Int) (ap:iU oD c f=(C,e)) :
  Fn Tryz.prog 69 [.agg (cj c),.agg (aO f),I now] (.bN [.agg (cj C),I e]):=by
 have q4:=sX hff;obtain ⟨oI,fv,i1,_⟩:=q1 (id:=f.Id) ad ao;unfold iU at ap;obtain ⟨k8,fL⟩:∃ k8:Int,k8=if (eV c f.Id).2=0 then(if b7 (eV c f.Id).1.aq f.Id<(eV c f.Id).1.aq.length then(b7 (eV c f.Id).1.aq f.Id:Int) else -1) else -1:=⟨_,rfl⟩;have iL:=B7 c f.Id ao.eg ad.op.1 ad.jf.2 (eV c f.Id).1 (eV c f.Id).2 rfl k8 fL;generalize eV c f.Id=K at *;obtain ⟨dH,aI⟩:=K;clear ad ao hff;obtain ⟨a0,fF,a2,a3,a4,a5,FN,FO,FP,a9,FQ,FR,a12,FT,FU⟩:=c;obtain ⟨cF,cn,cL,fin,dj,dI,dh⟩:=f;obtain ⟨aA,space,bg,bc,bp,ids,bJ,opened,aC,bF,queue,last,bK,bS,code⟩:=dH;dsimp only at *;subst ag;unfold cj at iL;(try dsimp only at iL);by_cases ai:aI=0
 ·subst ai;rw[al rfl] at ap fL;by_cases U:b7 aC cn<aC.length
  ·rw[al U] at ap fL;subst fL;have dN:=fv.gK _ (cc U);have ly:=fv.eg;have hq:=fv.iK;(try dsimp only at dN ly hq);generalize b7 aC cn=n at *;have kH:=oI.h7;(try dsimp only at kH)
   have FV:=SB ⟨aA,space,bg,bc,bp,ids,bJ,opened,aC,bF,queue,last,bK,bS,code⟩ n ⟨4,cn,cL,fin,dj,dI,dh⟩ ly U dN.2.2.1 (by
    have J:=FW dN.2.2.1
    unfold cV aE;dsimp only;omega) kH
   rw[ap] at FV;clear ap gw dN oI fv;unfold cj at FV ⊢;dsimp only at *;unfold aO;(try unfold cj);(try dsimp only);refine aH Tryz.func69 ?_;(refine jJ iL FV ?_;and_intros <;> intros)
   all_goals first|exact gL|skip
  ·rw[ah U] at ap fL;subst fL
   cases ap
   unfold aO;(try unfold cj);(try dsimp only);refine aH Tryz.func69 ?_;(refine bH iL ?_;and_intros <;> intros)
   all_goals first|exact gL|skip
 ·rw[ah ai] at ap fL;subst fL
  cases ap
  unfold aO;(try unfold cj);(try dsimp only);refine aH Tryz.func69 ?_;(refine bH iL ?_;and_intros <;> intros)
  all_goals first|exact gL|skip
theorem SS (c:aG) (f:bo) (now:Int) (ad:c3 c) (ao:cK B c) (an:B<=16777216) (gw:dx f) (hff:gx f=0) (hd:f.Data.length<=120) (ag:f.Kind=5) (C:aG) (e:Int) (ap:iU p4 c f=(C,e)) :
  Fn Tryz.prog 69 [.agg (cj c),.agg (aO f),I now] (.bN [.agg (cj C),I e]):=by
 have q4:=sX hff;obtain ⟨oI,fv,i1,_⟩:=q1 (id:=f.Id) ad ao;unfold iU at ap;obtain ⟨k8,fL⟩:∃ k8:Int,k8=if (eV c f.Id).2=0 then(if b7 (eV c f.Id).1.aq f.Id<(eV c f.Id).1.aq.length then(b7 (eV c f.Id).1.aq f.Id:Int) else -1) else -1:=⟨_,rfl⟩;have iL:=B7 c f.Id ao.eg ad.op.1 ad.jf.2 (eV c f.Id).1 (eV c f.Id).2 rfl k8 fL;generalize eV c f.Id=K at *;obtain ⟨dH,aI⟩:=K;clear ad ao hff;obtain ⟨a0,fF,a2,a3,a4,a5,FN,FO,FP,a9,FQ,FR,a12,FT,FU⟩:=c;obtain ⟨cF,cn,cL,fin,dj,dI,dh⟩:=f;obtain ⟨aA,space,bg,bc,bp,ids,bJ,opened,aC,bF,queue,last,bK,bS,code⟩:=dH;dsimp only at *;subst ag;unfold cj at iL;(try dsimp only at iL);by_cases ai:aI=0
 ·subst ai;rw[al rfl] at ap fL;by_cases U:b7 aC cn<aC.length
  ·rw[al U] at ap fL;subst fL;have dN:=fv.gK _ (cc U);have ly:=fv.eg;have hq:=fv.iK;(try dsimp only at dN ly hq);generalize b7 aC cn=n at *;obtain ⟨B8,oJ,p9,B9,wC,SU,_⟩:=dN;have yq:=SV (aC.getD n default).Out wC;unfold p4 cV at ap;(try dsimp only at ap);clear gw oJ p9 B9 wC oI fv
   cases h8:p5 (aC.getD n default).Out
   ·rw[h8] at ap yq;rw[ah iS] at ap;obtain ⟨m,hm⟩:∃ m:Nat,(aC.getD n default).Out.Next=(m:Int):=⟨(aC.getD n default).Out.Next.toNat,by omega⟩;have gu:=fun S=>uB ⟨aA,space,bg,bc,bp,ids,bJ,opened,aC,bF,queue,last,bK,bS,code⟩ n ⟨(aC.getD n default).Id,(aC.getD n default).In,(aC.getD n default).Read,(aC.getD n default).Over,(aC.getD n default).Cut,S⟩ b4 U
    have gu:=gu (po (aC.getD n default).Out);have hp:=yr (dw ⟨aA,space,bg,bc,bp,ids,bJ,opened,aC,bF,queue,last,bK,bS,code⟩ n ⟨(aC.getD n default).Id,(aC.getD n default).In,(aC.getD n default).Read,(aC.getD n default).Over,(aC.getD n default).Cut,po (aC.getD n default).Out⟩) (oF cn (aC.getD n default).Out.Next dj) hq;unfold fE dw oF at ap;unfold dw cj at gu;unfold fE dw oF cj at hp;(try dsimp only at gu hp ap);have hS:po (aC.getD n default).Out=⟨List.replicate m 0,true,(aC.getD n default).Out.Next,max (aC.getD n default).Out.Next (aC.getD n default).Out.Max,[],if 0<m then[⟨0,(aC.getD n default).Out.Next - 1⟩] else[],false,true⟩:=by
     unfold po;rw[Int.max_comm,show(aC.getD n default).Out.Next.toNat=m by omega];by_cases h:0<m
     ·rw[al h,al (by omega)]
     ·rw[ah h,ah (by omega)]
    rw[hS] at gu hp ap;generalize fK queue ⟨4,cn,(aC.getD n default).Out.Next,false,dj,[],[]⟩=T at *;obtain ⟨rP,p6⟩:=T;dsimp only at *;have abz:m<=600:=by omega
    have wD:(List.replicate m (0:UInt8)).length=m:=sY ..
    cases ap
    have LM:IntKind.i64.wrap ((m:Int) - 1)=(m:Int) - 1:=by rw[IntKind.wrap_i64];omega
    by_cases LN:0<m
    ·rw[al LN] at *;unfold aO;(try unfold cj);(try dsimp only);refine aH Tryz.func69 ?_;(repeat' first|refine bh iL ?_|refine bh yq ?_|(refine fI 39 ?_;(and_intros <;> intros))|fail)
     all_goals try (exfalso;omega)
     all_goals (refine gW ?_;refine gU [] ?_)
     (repeat' first|(refine BZ (by_:=1) (r:=(List.replicate m (0:UInt8)).map bm) m ?_ ?_ ?_ ?_ ?_ (h:=?_);(focus omega);(focus omega);(exact B0);(focus omega);(focus omega))|(refine fI 42 ?_;(and_intros <;> intros))|fail)
     all_goals try (exfalso;omega)
     all_goals (try rw[LM])
     all_goals try (refine jJ gu hp ?_;and_intros <;> intros)
     all_goals first|exact gL|skip
    ·rw[ah LN] at *;unfold aO;(try unfold cj);(try dsimp only);refine aH Tryz.func69 ?_;(repeat' first|refine bh iL ?_|refine bh yq ?_|(refine fI 39 ?_;(and_intros <;> intros))|fail)
     all_goals try (exfalso;omega)
     all_goals (refine gW ?_;refine gU [] ?_)
     (repeat' first|(refine BZ (by_:=1) (r:=(List.replicate m (0:UInt8)).map bm) m ?_ ?_ ?_ ?_ ?_ (h:=?_);(focus omega);(focus omega);(exact B0);(focus omega);(focus omega))|(refine fI 42 ?_;(and_intros <;> intros))|fail)
     all_goals try (exfalso;omega)
     all_goals (try rw[LM])
     all_goals try (refine jJ gu hp ?_;and_intros <;> intros)
     all_goals first|exact gL|skip
   ·rw[h8,al rfl] at ap;rw[h8] at yq
    cases ap
    unfold aO;(try unfold cj);(try dsimp only);refine aH Tryz.func69 ?_;(refine jJ iL yq ?_;and_intros <;> intros)
    all_goals first|exact gL|skip
  ·rw[ah U] at ap fL;subst fL
   cases ap
   unfold aO;(try unfold cj);(try dsimp only);refine aH Tryz.func69 ?_;(refine bH iL ?_;and_intros <;> intros)
   all_goals first|exact gL|skip
 ·rw[ah ai] at ap fL;subst fL
  cases ap
  unfold aO;(try unfold cj);(try dsimp only);refine aH Tryz.func69 ?_;(refine bH iL ?_;and_intros <;> intros)
  all_goals first|exact gL|skip
end
section
set_option maxRecDepth 100000
attribute [local irreducible] cE a6 bu GStep Fn cg bf cA
theorem Tk {B:Nat} (c:aG) (f:bo) (now:Int) (ad:c3 c) (ao:cK B c) (an:B<=16777216) (gw:dx f) (hff:gx f=0) (hd:f.Data.length<=120) (ag:f.Kind=8) (C:aG) (e:Int) (ap:iU rf c f=(C,e)) :
  Fn Tryz.prog 69 [.agg (cj c),.agg (aO f),I now] (.bN [.agg (cj C),I e]):=by
 have q4:=sX hff;obtain ⟨oI,fv,i1,_⟩:=q1 (id:=f.Id) ad ao;unfold iU at ap;obtain ⟨k8,fL⟩:∃ k8:Int,k8=if (eV c f.Id).2=0 then(if b7 (eV c f.Id).1.aq f.Id<(eV c f.Id).1.aq.length then(b7 (eV c f.Id).1.aq f.Id:Int) else -1) else -1:=⟨_,rfl⟩;have iL:=B7 c f.Id ao.eg ad.op.1 ad.jf.2 (eV c f.Id).1 (eV c f.Id).2 rfl k8 fL;generalize eV c f.Id=K at *;obtain ⟨dH,aI⟩:=K;clear ad ao hff;obtain ⟨a0,fF,a2,a3,a4,a5,FN,FO,FP,a9,FQ,FR,a12,FT,FU⟩:=c;obtain ⟨cF,cn,cL,fin,dj,dI,dh⟩:=f;obtain ⟨aA,space,bg,bc,bp,ids,bJ,opened,aC,bF,queue,last,bK,bS,code⟩:=dH;dsimp only at *;subst ag;unfold cj at iL;(try dsimp only at iL);by_cases ai:aI=0
 ·subst ai;rw[al rfl] at ap fL;by_cases U:b7 aC cn<aC.length
  ·rw[al U] at ap fL;subst fL;have dN:=fv.gK _ (cc U);have ly:=fv.eg;have hq:=fv.iK;(try dsimp only at dN ly hq);generalize b7 aC cn=n at *;obtain ⟨B8,oJ,p9,B9,wC,SU,acG⟩:=dN;have lB:=oI.dv;clear oI fv;have cZ:∀ p ∈ (aC.getD n default).In.aD,p.Data.length<=16777216:=fun p ar=>by have:=wV ar;omega
   have PT:=Su (aC.getD n default).In cL dh fin oJ gw.2.2.1 (by omega) cZ;have qy:=GM (aC.getD n default).In cL dh fin oJ gw.2.2.1 (by omega) cZ;have EF:=GV (aC.getD n default).In cL dh fin (by omega) cZ;have q0:=BM (aC.getD n default).In p9;have nN:=FW p9;unfold rf cV at ap;(try dsimp only at ap);clear gw cZ
   cases hcut:(aC.getD n default).Cut
   ·rw[hcut,ah iS] at ap;generalize iv (aC.getD n default).In cL dh fin=Y4 at *;obtain ⟨g2,uO⟩:=Y4;dsimp only at *;by_cases fz:uO=0
    ·subst fz;rw[ah (fun h=>h rfl)] at ap;obtain ⟨dg,db,gq,ka,hj⟩:=EF rfl;obtain ⟨aL,aS,bi,cq,e3⟩:=GW dg;have Kp:=BM g2 dg;have k3:=FW dg;have Kq:=TV g2 qy;have hw:IntKind.i64.wrap (eO g2 - eO (aC.getD n default).In)=eO g2 - eO (aC.getD n default).In:=by rw[IntKind.wrap_i64];omega
     have nf:=Lz bc (eO g2 - eO (aC.getD n default).In) (by unfold aE;omega);generalize j3 bc (eO g2 - eO (aC.getD n default).In)=FS at *;obtain ⟨dv,uA⟩:=FS;dsimp only at *;have rN:=nf;rw[<- hw] at rN;clear hw;by_cases px:uA=0
     ·subst px;rw[ah (fun h=>h rfl)] at ap;have GP:(ld g2).2.1.length<=16777336:=by omega
      generalize acH:ld g2=Y5 at *;obtain ⟨Y6,eJ,to,p6⟩:=Y5;unfold wW at Kq;dsimp only at *;subst aS;have gu:=uB ⟨aA,space,bg,dv,bp,ids,bJ,opened,aC,bF,queue,last,bK,bS,code⟩ n ⟨(aC.getD n default).Id,Y6,(aC.getD n default).Read++eJ,to,false,(aC.getD n default).Out⟩ b4 U;unfold dM dw at ap;unfold dw cj at gu;(try dsimp only at gu ap);have acI:((aC.getD n default).Read++eJ).length=(aC.getD n default).Read.length+eJ.length:=eE ..;clear EF qy dg db gq ka hj aL bi cq e3;by_cases QF:800<((aC.getD n default).Read++eJ).length
      ·rw[al QF] at ap
       cases ap
       unfold aO;(try unfold cj);(try dsimp only);refine aH Tryz.func69 ?_;(refine Jh ?_;and_intros <;> intros)
       all_goals try (exfalso;omega)
       all_goals (refine gW ?_;refine gU [] ?_)
       (repeat' first|refine bh q0 ?_|refine bh Kp ?_|refine bh rN ?_|refine bh nf ?_|refine bh Kq ?_|(refine fI 60 ?_;(and_intros <;> intros))|fail)
       all_goals try (exfalso;omega)
       all_goals (try rw[hcut])
       all_goals try (refine bH gu ?_;and_intros <;> intros)
       all_goals first|exact gL|skip
      ·rw[ah QF] at ap
       cases ap
       unfold aO;(try unfold cj);(try dsimp only);refine aH Tryz.func69 ?_;(refine Jh ?_;and_intros <;> intros)
       all_goals try (exfalso;omega)
       all_goals (refine gW ?_;refine gU [] ?_)
       (repeat' first|refine bh q0 ?_|refine bh Kp ?_|refine bh rN ?_|refine bh nf ?_|refine bh Kq ?_|(refine fI 60 ?_;(and_intros <;> intros))|fail)
       all_goals try (exfalso;omega)
       all_goals (try rw[hcut])
       all_goals try (refine bH gu ?_;and_intros <;> intros)
       all_goals first|exact gL|skip
     ·rw[al px] at ap
      cases ap
      unfold aO;(try unfold cj);(try dsimp only);refine aH Tryz.func69 ?_;(refine Jh ?_;and_intros <;> intros)
      all_goals try (exfalso;omega)
      all_goals (refine gW ?_;refine gU [] ?_)
      all_goals try (refine yX q0 Kp rN nf ?_;and_intros <;> intros)
      all_goals first|exact gL|skip
    ·rw[al fz] at ap
     cases ap
     unfold aO;(try unfold cj);(try dsimp only);refine aH Tryz.func69 ?_;(repeat' first|refine bh iL ?_|refine bh PT ?_|(refine ng ?_ ?_;(exact uz))|(refine ay ?_;(and_intros <;> intros))|fail)
     all_goals first|exact gL|skip
   ·rw[hcut,al rfl] at ap
    cases ap
    unfold aO;(try unfold cj);(try dsimp only);refine aH Tryz.func69 ?_;(repeat' first|refine bh iL ?_|(refine rM ?_ ?_;(exact LA))|(refine ay ?_;(and_intros <;> intros))|fail)
    all_goals first|exact gL|skip
  ·rw[ah U] at ap fL;subst fL
   cases ap
   unfold aO;(try unfold cj);(try dsimp only);refine aH Tryz.func69 ?_;(refine bH iL ?_;and_intros <;> intros)
   all_goals first|exact gL|skip
 ·rw[ah ai] at ap fL;subst fL
  cases ap
  unfold aO;(try unfold cj);(try dsimp only);refine aH Tryz.func69 ?_;(refine bH iL ?_;and_intros <;> intros)
  all_goals first|exact gL|skip
end
end Go.Proofs.YtendheafcbickaaGreat
