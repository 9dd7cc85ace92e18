/-
  SEVERAL TEXTS IN ONE: each with its own comment.
-/
import Derived.Test.YtendheafcbickaaGreatCHrU
import Derived.Test.YtendheafcbickaaGreatCMg39
set_option linter.unusedVariables false
set_option linter.unusedSimpArgs false
set_option maxHeartbeats 16000000
namespace Go.Proofs.YtendheafcbickaaGreat
section
set_option maxRecDepth 100000
attribute [local irreducible] cE a6 bu GStep Fn cg bf cA
theorem VU (c:aG) (f:bo) (fG:mh c.aq) (ao:c.aq.length<=1000000) (hq:c.Queue.length<=12) (gw:dx f) :
  Fn Tryz.prog 235 [.agg (cj c),.agg (aO f)] (.bN [.agg (cj (ml c (iV c f).1 (iV c f).2.1)),I (iV c f).2.2]):=by
 have c1:=Dq c f.Id ao;have hle:=q7 c.aq f.Id;have kA:=fun g=>yr c g hq
 generalize ap:iV c f=R;obtain ⟨Og,yu,yv⟩:=R;unfold iV nl uJ mI at ap;obtain ⟨aA,space,bg,bc,bp,ids,bJ,opened,aC,bF,queue,last,bK,bS,code⟩:=c;obtain ⟨cF,cn,cL,fin,dj,dI,dh⟩:=f;unfold uK at ap;unfold ml;dsimp only at *;by_cases ib:cF=8
 ·subst ib;rw[al rfl] at ap;by_cases U:b7 aC cn<aC.length
  ·rw[al U] at ap c1;have nk:=fG _ (cc U);have nm:=VV (aC.getD (b7 aC cn) default).Out cL dh.length fin nk.2.2.2 gw.2.2.1 (by have:=gw.2.2.2.2.2.2;dsimp only at this;unfold aE;omega);have jz:=fun S=>uB ⟨aA,space,bg,bc,bp,ids,bJ,opened,aC,bF,queue,last,bK,bS,code⟩ (b7 aC cn) { aC.getD (b7 aC cn) default with Out:=S } ao U
   clear fG nk gw kA;generalize b7 aC cn=n at *;generalize mj (aC.getD n default).Out cL dh.length fin=rU at *;obtain ⟨S,le⟩:=rU;have jz:=jz S;unfold pv at nm;unfold dw at jz;dsimp only at *;by_cases kM:le=0
   ·subst kM;rw[al rfl] at ap
    cases ap
    refine aH Tryz.func235 ?_;(refine pt c1 nm jz ?_;and_intros <;> intros)
    all_goals first|exact gL|skip
   ·rw[ah kM] at ap
    cases ap
    refine aH Tryz.func235 ?_;(refine pt c1 nm jz ?_;and_intros <;> intros)
    all_goals first|exact gL|skip
  ·rw[ah U] at ap c1
   cases ap
   refine aH Tryz.func235 ?_;(refine bH c1 ?_;and_intros <;> intros)
   all_goals first|exact gL|skip
 ·rw[ah ib] at ap;by_cases rW:s8 cF
  ·rw[al rW] at ap;unfold s8 at rW;obtain ⟨k8,fL⟩:∃ k8:Int,k8=(if b7 aC cn<aC.length then(b7 aC cn:Int) else -1):=⟨_,rfl⟩;rw[<- fL] at c1;refine aH Tryz.func235 ?_;(repeat' first|refine bh c1 ?_|(refine fI 2 ?_;(and_intros <;> intros))|fail);refine je (fun _:Unit=>⟨[(2,.ptr 0 0 0 0),(3,.ptr 1 0 0 0),(4,.ptr 2 0 0 0),(6,I k8)],[(0,some (.box 51 [ab aA,I space.Next,.ro (space.aR.map bC),I space.c9,.ro (space.cD.map aB),.ro (space.bI.map encI),I bg.bj,I bg.dy,I bg.c0,I bg.Since,I bc.Max,I bc.bG,I bp.Max,I bp.bG,I ids,I bJ,I opened,.ro (aC.map eo),ab bF,.ro (queue.map aO),I last,I bK,ab bS,I code])),(1,some (.box 111 [I cF,I cn,I cL,ab fin,I dj,.ro (dI.map aB),.ro (dh.map bm)])),(2,some (.box 51 [ab false,I 0,aX,I 0,aX,aX,I 0,I 0,I 0,I 0,I 0,I 0,I 0,I 0,I 0,I 0,I 0,aX,ab false,aX,I 0,I 0,ab false,I 0]))],3,Tryz.f235.ntmps⟩) (fun _=>True) ?_ ?_
   ·(try refine ay ?_;and_intros <;> intros)
    all_goals first
     | (exact⟨(),trivial,ba⟩)
     | (exfalso;omega)
     | (exfalso;dsimp only at *;omega)
     | (exfalso;simp only[IntKind.wrap_i64] at *;omega)
     | skip
   rintro ⟨⟩ -;clear c1;(try refine ay ?_;and_intros <;> intros);refine cv (fun k:Nat=>⟨[(2,.ptr 0 0 0 0),(3,.ptr 1 0 0 0),(4,.ptr 2 0 0 0),(6,I k8),(61,.ro (queue.map aO)),(62,I queue.length),(63,I k)],[(0,some (.box 51 [ab aA,I space.Next,.ro (space.aR.map bC),I space.c9,.ro (space.cD.map aB),.ro (space.bI.map encI),I bg.bj,I bg.dy,I bg.c0,I bg.Since,I bc.Max,I bc.bG,I bp.Max,I bp.bG,I ids,I bJ,I opened,.ro (aC.map eo),ab bF,.ro (queue.map aO),I last,I bK,ab bS,I code])),(1,some (.box 111 [I cF,I cn,I cL,ab fin,I dj,.ro (dI.map aB),.ro (dh.map bm)])),(2,some (.box 51 [ab false,I 0,aX,I 0,aX,aX,I 0,I 0,I 0,I 0,I 0,I 0,I 0,I 0,I 0,I 0,I 0,aX,ab false,aX,I 0,I 0,ab false,I 0]))],3,Tryz.f235.ntmps⟩)
    (fun k=>k<=queue.length /\ ∀ i,i<k -> ¬ ((queue.getD i default).Kind=cF/\(queue.getD i default).Id=cn)) (fun k=>queue.length - k) 0 ⟨cm _,fun i h=>by omega⟩ fP ?_
   rintro k ⟨ag,ia⟩;by_cases au:k<queue.length
   ·by_cases he:(queue.getD k default).Kind=cF/\(queue.getD k default).Id=cn
    ·rw[al (j6 ⟨k,au,he⟩)] at ap
     cases ap
     obtain ⟨aI,a7⟩:=he;(try refine ay ?_;and_intros <;> intros)
     all_goals first|exact gL|skip
    ·(try refine ay ?_;and_intros <;> intros)
     all_goals first
      | (exact⟨k+1,(by omega),L3,ba⟩)
      | (exfalso;omega)
      | (exfalso;dsimp only at *;omega)
      | (exfalso;simp only[IntKind.wrap_i64] at *;omega)
      | skip
   ·have ca:k=queue.length:=by omega
    subst ca;have yw:¬ F8 queue ⟨cF,cn,cL,fin,dj,dI,dh⟩:=fun ⟨i,hi,e⟩=>ia i hi e
    rw[ah (by rw[jM yw];exact iS)] at ap;clear ia au ag yw;by_cases uL:cF=16
    ·subst uL;rw[ah (fun h=>by omega),al rfl] at ap;have kA:=kA ⟨16,cn,bc.Max,fin,dj,dI,dh⟩;generalize fK queue ⟨16,cn,bc.Max,fin,dj,dI,dh⟩=T at *;obtain ⟨t1,t2⟩:=T;unfold fE at kA
     cases ap
     dsimp only at kA;(refine bH kA ?_;and_intros <;> intros)
     all_goals first|exact gL|skip
    ·by_cases uM:cF=18
     ·subst uM;rw[ah (fun h=>by omega),ah (by omega),al rfl] at ap;have kA:=kA ⟨18,cn,bJ,fin,dj,dI,dh⟩;generalize fK queue ⟨18,cn,bJ,fin,dj,dI,dh⟩=T at *;obtain ⟨t1,t2⟩:=T;unfold fE at kA
      cases ap
      dsimp only at kA;(refine bH kA ?_;and_intros <;> intros)
      all_goals first|exact gL|skip
     ·by_cases qc:cF=17
      ·subst qc;rw[ah uL,ah uM,al rfl] at ap;by_cases U:b7 aC cn<aC.length
       ·rw[al U] at fL;subst fL;generalize b7 aC cn=n at *
        cases h8:(aC.getD n default).Over
        ·rw[ah (fun h=>by rcases h.2 with h|h;omega;(rw[h8] at h;cases h))] at ap;have kA:=kA ⟨17,cn,(aC.getD n default).In.bj,fin,dj,dI,dh⟩;generalize fK queue ⟨17,cn,(aC.getD n default).In.bj,fin,dj,dI,dh⟩=T at *;obtain ⟨t1,t2⟩:=T;unfold fE at kA
         cases ap
         dsimp only at kA;(refine bH kA ?_;and_intros <;> intros)
         all_goals (try rw[h8])
         all_goals (first|done|((refine bH kA ?_;and_intros <;> intros))|skip)
         all_goals first|exact gL|skip
        ·rw[al ⟨rfl,.inr h8⟩] at ap
         cases ap
         (try refine ay ?_;and_intros <;> intros)
         all_goals (try rw[h8])
         all_goals (first|done|((try refine ay ?_;and_intros <;> intros))|skip)
         all_goals first|exact gL|skip
       ·rw[ah U] at fL;rw[al ⟨rfl,.inl (by omega)⟩] at ap
        cases ap
        subst fL;(try refine ay ?_;and_intros <;> intros)
        all_goals first|exact gL|skip
      ·rw[ah (fun h=>qc h.1),ah uL,ah uM,ah qc] at ap;have kA:=kA ⟨cF,cn,cL,fin,dj,dI,dh⟩;generalize fK queue ⟨cF,cn,cL,fin,dj,dI,dh⟩=T at *;obtain ⟨t1,t2⟩:=T;unfold fE at kA
       cases ap
       dsimp only at kA;(refine bH kA ?_;and_intros <;> intros)
       all_goals first|exact gL|skip
  ·rw[ah rW] at ap;unfold s8 at rW
   cases ap
   refine aH Tryz.func235 ?_;(refine bH c1 ?_;and_intros <;> intros)
   all_goals first|exact gL|skip
theorem VW (c:aG) (l:List eN) (now:Int) (hw:fw c) (fG:mh c.aq) (ao:c.aq.length<=4) (hq:c.Queue.length<=12) (hI:l.length<=1000000) (ar:∀ y,y ∈ l->ji y) (C:aG) (e:Int) (ap:jN now c l=(C,e)) :
  Fn Tryz.prog 114 [.agg (cj c),.ro (l.map bC),I now] (.bN [.agg (cj C),I e]):=by
 obtain ⟨aA,space,bg,bc,bp,ids,bJ,opened,aC,bF,queue,last,bK,bS,code⟩:=c;dsimp only at *;refine aH Tryz.func114 ?_;(try refine ay ?_;and_intros <;> intros);refine cv (fun x:Nat×gA×List cS×List bo=>⟨[(2,I now),(3,.ptr 0 0 0 0),(6,.ptr 1 0 0 0),(14,.ro (l.map bC)),(15,I l.length),(16,I x.1)],[(0,some (.box 51 [ab aA,I space.Next,.ro (space.aR.map bC),I space.c9,.ro (space.cD.map aB),.ro (space.bI.map encI),I x.2.1.bj,I x.2.1.dy,I x.2.1.c0,I x.2.1.Since,I bc.Max,I bc.bG,I bp.Max,I bp.bG,I ids,I bJ,I opened,.ro (x.2.2.1.map eo),ab bF,.ro (x.2.2.2.map aO),I last,I bK,ab bS,I code])),(1,some (.box 51 [ab false,I 0,aX,I 0,aX,aX,I 0,I 0,I 0,I 0,I 0,I 0,I 0,I 0,I 0,I 0,I 0,aX,ab false,aX,I 0,I 0,ab false,I 0]))],2,Tryz.f114.ntmps⟩)
  (fun x=>x.1<=l.length/\jN now ⟨aA,space,x.2.1,bc,bp,ids,bJ,opened,x.2.2.1,bF,x.2.2.2,last,bK,bS,code⟩ (l.drop x.1)=(C,e)/\fw ⟨aA,space,x.2.1,bc,bp,ids,bJ,opened,x.2.2.1,bF,x.2.2.2,last,bK,bS,code⟩/\mh x.2.2.1/\x.2.2.1.length<=4/\x.2.2.2.length<=12) (fun x=>l.length - x.1) (0,bg,aC,queue) ⟨cm _,ap,hw,fG,ao,hq⟩ fP ?_
 clear ap fG hq hw ao;rintro ⟨k,p,a8,q⟩ ⟨ag,hm,hw,fG,hK,hq⟩;dsimp only at *;by_cases au:k<l.length
 ·rw[drop_cons au] at hm;unfold jN at hm;have oL:=ar _ (cc au);have iN:=Vt p hw.2.1 (min (l.getD k default).hG p.c0) (l.getD k default).Time now;rw[Int.min_comm] at iN;unfold rT kL at hm;dsimp only at hm;have yj:=Oh p (min (l.getD k default).hG p.c0) (l.getD k default).Time now hw.2.1;rw[Int.min_comm] at hm yj;generalize qd p (min p.c0 (l.getD k default).hG) (l.getD k default).Time now=uN at *;obtain ⟨db,uO⟩:=uN;dsimp only at *;have Oi:fw ⟨aA,space,db,bc,bp,ids,bJ,opened,a8,bF,q,last,bK,bS,code⟩:=⟨hw.1,yj,hw.2.2⟩;have lB:(l.getD k default).Frames.length<=1000000000000000:=by have:=oL.2.2.2.1;omega
  have uP:=oL.2.2.2.2;generalize qe:j7 ⟨aA,space,db,bc,bp,ids,bJ,opened,a8,bF,q,last,bK,bS,code⟩ (l.getD k default).Frames=uQ at *;obtain ⟨jk,a7⟩:=uQ;clear hw yj;(refine bH iN ?_;and_intros <;> intros);refine cv (fun x:Nat×List cS×List bo=>⟨[(2,I now),(3,.ptr 0 0 0 0),(6,.ptr 1 0 0 0),(14,.ro (l.map bC)),(15,I l.length),(16,I k),(37,.ro ((l.getD k default).Frames.map aO)),(38,I (l.getD k default).Frames.length),(39,I x.1)],[(0,some (.box 51 [ab aA,I space.Next,.ro (space.aR.map bC),I space.c9,.ro (space.cD.map aB),.ro (space.bI.map encI),I db.bj,I db.dy,I db.c0,I db.Since,I bc.Max,I bc.bG,I bp.Max,I bp.bG,I ids,I bJ,I opened,.ro (x.2.1.map eo),ab bF,.ro (x.2.2.map aO),I last,I bK,ab bS,I code])),(1,some (.box 51 [ab false,I 0,aX,I 0,aX,aX,I 0,I 0,I 0,I 0,I 0,I 0,I 0,I 0,I 0,I 0,I 0,aX,ab false,aX,I 0,I 0,ab false,I 0]))],2,Tryz.f114.ntmps⟩)
   (fun x=>x.1<=(l.getD k default).Frames.length/\j7 ⟨aA,space,db,bc,bp,ids,bJ,opened,x.2.1,bF,x.2.2,last,bK,bS,code⟩ ((l.getD k default).Frames.drop x.1)=(jk,a7)/\fw ⟨aA,space,db,bc,bp,ids,bJ,opened,x.2.1,bF,x.2.2,last,bK,bS,code⟩/\mh x.2.1/\x.2.1.length<=4/\x.2.2.length<=12) (fun x=>(l.getD k default).Frames.length - x.1) (0,a8,q) ⟨cm _,qe,Oi,fG,hK,hq⟩ fP ?_
  clear qe fG hK hq iN Oi;rintro ⟨j,a8,q⟩ ⟨ad,bL,hw,fG,hK,hq⟩;dsimp only at *;by_cases fh:j<(l.getD k default).Frames.length
  ·rw[drop_cons fh] at bL;unfold j7 at bL;have gw:=uP _ (cc fh);have Oj:=VU ⟨aA,space,db,bc,bp,ids,bJ,opened,a8,bF,q,last,bK,bS,code⟩ ((l.getD k default).Frames.getD j default) fG b4 hq gw;obtain ⟨fF,a2,a3,a4⟩:=VX hw fG hK hq gw;generalize (l.getD k default).Frames=cY at *;generalize iV ⟨aA,space,db,bc,bp,ids,bJ,opened,a8,bF,q,last,bK,bS,code⟩ (cY.getD j default)=rU at *;obtain ⟨Og,yu,yv⟩:=rU;unfold ml at *;dsimp only at *;by_cases jh:yv=0
   ·subst jh;rw[al rfl] at bL;(refine bH Oj ?_;and_intros <;> intros)
    all_goals first
     | (exact⟨(j+1,Og,yu),b4,⟨fh,bL,fF,a2,a3,a4⟩,ba⟩)
     | (exfalso;omega)
     | (exfalso;dsimp only at *;omega)
     | (exfalso;simp only[IntKind.wrap_i64] at *;omega)
     | skip
   ·rw[ah jh] at bL
    cases bL
    rw[ah jh] at hm
    cases hm
    (refine bH Oj ?_;and_intros <;> intros)
    all_goals first|exact gL|skip
  ·have nR:j=(l.getD k default).Frames.length:=by omega
   subst nR;rw[iJ] at bL;unfold j7 at bL
   cases bL
   rw[al rfl] at hm;(try refine ay ?_;and_intros <;> intros)
   all_goals first
    | (exact⟨(k+1,db,a8,q),b4,⟨au,hm,hw,fG,hK,hq⟩,ba⟩)
    | skip
 ·have ca:k=l.length:=by omega
  subst ca;rw[iJ] at hm;unfold jN at hm
  cases hm
  (try refine ay ?_;and_intros <;> intros)
  all_goals first|exact fq|skip
theorem Ma (c:aG) (e:Int):Fn Tryz.prog 70 [.agg (cj c),I e] (.agg (cj (kS c e))):=by
 unfold kS;generalize jU:cj { c with fj:=true,Code:=e,Queue:=[sw e],aq:=[],fT:=false }=Z;unfold cj at jU;dsimp only at jU;subst jU;refine aH Tryz.func70 ?_;(repeat' first|refine cb (hq:=j5 rfl rfl rfl rfl) (h:=?_)|(refine tJ (h:=?_);refine C1 (Ol 12 (l:=[vt e]) (dW:=[sw e].map aO) rfl rfl (Om e) (On e)) ?_)|(refine eF ?_;(and_intros <;> intros))|refine dS ?_|fail)
 all_goals first|exact fq|skip
theorem VY {s:ey} {l:List aK} (ai:(fr s l).2.2.2=0):(fr s l).2.2.1.length<=1000000:=by
 have hlen:=(H4 s l).2;rcases r8 s with⟨g0,ae⟩ | ⟨g0,ae⟩
 ·have:=ae.1.1;unfold ku at this;omega
 ·unfold fr at ai;rw[al (by omega)] at ai;(try dsimp only at ai);omega
theorem Vz {B:Nat} (c:aG) (f:bo) (now:Int) (ad:c3 c) (ao:cK B c) (an:B<=16777216) (gw:dx f) (C:aG) (e:Int) (ap:qt c f now=(C,e)) :
  Fn Tryz.prog 148 [.agg (cj c),.agg (aO f),I now] (.bN [.agg (cj C),I e]):=by
 have gv:=bT.zj _ ad.sp;have dC:=VZ c.aQ f.ec gv (by have:=gw.2.2.2.2.1;omega);obtain ⟨v1,v2,v3,v4,v5⟩:=Oo c.aQ f.ec gv;obtain ⟨v6,abZ⟩:=H4 c.aQ f.ec;have Dx:=ad.sp.2.1;have v9:=VY (s:=c.aQ) (l:=f.ec);have o1:=Oq ad (Ot c.aQ f.ec ad.sp);have hU:cK B (iy c (fr c.aQ f.ec).1):=Ou ao;clear ad ao gw gv;unfold qt at ap;unfold r7 at dC;unfold iy at *;obtain ⟨aA,space,bg,bc,bp,ids,bJ,opened,aC,bF,queue,last,bK,bS,code⟩:=c;obtain ⟨cF,cn,cL,fin,dj,dI,dh⟩:=f;dsimp only at *;generalize fr space dI=R at *;obtain ⟨gD,heard,lost,H6⟩:=R;dsimp only at *;by_cases ai:H6=0
 ·subst ai;have v9:=v9 rfl;rw[al rfl] at ap;generalize zG:kQ ⟨aA,gD,bg,bc,bp,ids,bJ,opened,aC,bF,queue,last,bK,bS,code⟩ heard=H7 at *;obtain ⟨dH,aI⟩:=H7;dsimp only at *;refine aH Tryz.func148 ?_;(refine bH dC ?_;and_intros <;> intros)
  all_goals try (exfalso;omega)
  refine cv (fun x:Nat×gA×List cS=>⟨[(2,I now),(3,.ptr 0 0 0 0),(6,.ptr 2 0 0 0),(10,.ro (lost.map bC)),(34,.ro (heard.map bC)),(35,I heard.length),(36,I x.1)],[(0,some (.box 51 [ab aA,I gD.Next,.ro (gD.aR.map bC),I gD.c9,.ro (gD.cD.map aB),.ro (gD.bI.map encI),I x.2.1.bj,I x.2.1.dy,I x.2.1.c0,I x.2.1.Since,I bc.Max,I bc.bG,I bp.Max,I bp.bG,I ids,I bJ,I opened,.ro (x.2.2.map eo),ab bF,.ro (queue.map aO),I last,I bK,ab bS,I code])),(2,some (.box 51 [ab false,I 0,aX,I 0,aX,aX,I 0,I 0,I 0,I 0,I 0,I 0,I 0,I 0,I 0,I 0,I 0,aX,ab false,aX,I 0,I 0,ab false,I 0]))],4,Tryz.f148.ntmps⟩)
   (fun x=>x.1<=heard.length/\kQ ⟨aA,gD,x.2.1,bc,bp,ids,bJ,opened,x.2.2,bF,queue,last,bK,bS,code⟩ (heard.drop x.1)=(dH,aI)/\c3 ⟨aA,gD,x.2.1,bc,bp,ids,bJ,opened,x.2.2,bF,queue,last,bK,bS,code⟩/\cK B ⟨aA,gD,x.2.1,bc,bp,ids,bJ,opened,x.2.2,bF,queue,last,bK,bS,code⟩) (fun x=>heard.length - x.1) (0,bg,aC) ⟨cm _,zG,o1,hU⟩ fP ?_
  clear zG o1 hU dC;rintro ⟨k,p,a8⟩ ⟨ag,hm,o1,hU⟩;dsimp only at *;by_cases au:k<heard.length
  ·rw[drop_cons au] at hm;unfold kQ at hm;have oL:=v3 _ (cc au);have iN:=Uh p o1.lC (min (heard.getD k default).hG p.c0) (heard.getD k default).Time;have sx:=Ib o1 (Ov p (min (heard.getD k default).hG p.c0) (heard.getD k default).Time o1.lC);have iZ:cK B (kL ⟨aA,gD,p,bc,bp,ids,bJ,opened,a8,bF,queue,last,bK,bS,code⟩ (pF p (min (heard.getD k default).hG p.c0) (heard.getD k default).Time).1):=Ic hU;rw[Int.min_comm] at iN sx iZ;unfold r9 at hm;unfold kL at *;dsimp only at *;rw[Int.min_comm] at hm;generalize pF p (min p.c0 (heard.getD k default).hG) (heard.getD k default).Time=uN at *;obtain ⟨db,uO⟩:=uN;dsimp only at *;have lB:(heard.getD k default).Frames.length<=1000000000000000:=by have:=oL.2.2.2.1;omega
   have uP:=oL.2.2.2.2;generalize qe:kv ⟨aA,gD,db,bc,bp,ids,bJ,opened,a8,bF,queue,last,bK,bS,code⟩ (heard.getD k default).Frames=uQ at *;obtain ⟨jk,a7⟩:=uQ;dsimp only at *;clear o1 hU;(refine bH iN ?_;and_intros <;> intros);refine cv (fun x:Nat×List cS=>⟨[(2,I now),(3,.ptr 0 0 0 0),(6,.ptr 2 0 0 0),(10,.ro (lost.map bC)),(34,.ro (heard.map bC)),(35,I heard.length),(36,I k),(56,.ro ((heard.getD k default).Frames.map aO)),(57,I (heard.getD k default).Frames.length),(58,I x.1)],[(0,some (.box 51 [ab aA,I gD.Next,.ro (gD.aR.map bC),I gD.c9,.ro (gD.cD.map aB),.ro (gD.bI.map encI),I db.bj,I db.dy,I db.c0,I db.Since,I bc.Max,I bc.bG,I bp.Max,I bp.bG,I ids,I bJ,I opened,.ro (x.2.map eo),ab bF,.ro (queue.map aO),I last,I bK,ab bS,I code])),(2,some (.box 51 [ab false,I 0,aX,I 0,aX,aX,I 0,I 0,I 0,I 0,I 0,I 0,I 0,I 0,I 0,I 0,I 0,aX,ab false,aX,I 0,I 0,ab false,I 0]))],4,Tryz.f148.ntmps⟩)
    (fun x=>x.1<=(heard.getD k default).Frames.length/\kv ⟨aA,gD,db,bc,bp,ids,bJ,opened,x.2,bF,queue,last,bK,bS,code⟩ ((heard.getD k default).Frames.drop x.1)=(jk,a7)/\c3 ⟨aA,gD,db,bc,bp,ids,bJ,opened,x.2,bF,queue,last,bK,bS,code⟩/\cK B ⟨aA,gD,db,bc,bp,ids,bJ,opened,x.2,bF,queue,last,bK,bS,code⟩) (fun x=>(heard.getD k default).Frames.length - x.1) (0,a8) ⟨cm _,qe,sx,iZ⟩ fP ?_
   clear qe sx iZ iN;rintro ⟨j,a8⟩ ⟨G5,bL,sx,iZ⟩;dsimp only at *;by_cases fh:j<(heard.getD k default).Frames.length
   ·rw[drop_cons fh] at bL;unfold kv at bL;have gw:=uP _ (cc fh);obtain ⟨i1,i2,i3⟩:=Ow (x:=(heard.getD k default).Frames.getD j default) sx iZ;generalize (heard.getD k default).Frames=cY at *;have c1:=Dq ⟨aA,gD,db,bc,bp,ids,bJ,opened,a8,bF,queue,last,bK,bS,code⟩ (cY.getD j default).Id (by have:=iZ.eg;dsimp only at *;omega);have hle:=q7 a8 (cY.getD j default).Id;(try dsimp only at c1);by_cases U:b7 a8 (cY.getD j default).Id<a8.length
    ·rw[al U] at c1;by_cases ib:(cY.getD j default).Kind=8
     ·rw[Ob _ _ ib U] at bL i1 i2;(try dsimp only at bL i1 i2);have nk:=(iZ.gK _ (cc U)).2.2.2.2.1;have nm:=V0 (a8.getD (b7 a8 (cY.getD j default).Id) default).Out (cY.getD j default).aP (cY.getD j default).Data.length (cY.getD j default).Fin nk gw.2.2.1 (by have:=gw.2.2.2.2.2.2;unfold aE;omega);have jz:=fun S=>uB ⟨aA,gD,db,bc,bp,ids,bJ,opened,a8,bF,queue,last,bK,bS,code⟩ (b7 a8 (cY.getD j default).Id) { a8.getD (b7 a8 (cY.getD j default).Id) default with Out:=S } (by have:=iZ.eg;dsimp only at *;omega) U
      clear sx iZ nk i3;generalize b7 a8 (cY.getD j default).Id=n at *;generalize lF (a8.getD n default).Out (cY.getD j default).aP (cY.getD j default).Data.length (cY.getD j default).Fin=rU at *;obtain ⟨S,le⟩:=rU;have jz:=jz S;unfold pv at nm;unfold cj at c1;unfold dw cj at jz;dsimp only at *;by_cases kM:le=0
      ·subst kM;simp only[↓reduceIte] at bL i1 i2;unfold dw at bL i1 i2;(try dsimp only at bL i1 i2);(refine pt c1 nm jz ?_;and_intros <;> intros)
       all_goals first
        | (exact⟨(j+1,a8.set n { a8.getD n default with Out:=S }),b4,⟨fh,bL,i1,i2⟩,ba⟩)
        | (exfalso;omega)
        | skip
      ·rw[ah kM] at bL;(try dsimp only at bL);rw[ah kM] at bL
       cases bL
       rw[ah kM] at hm
       cases hm
       rw[ah kM] at ap
       cases ap
       (refine pt c1 nm jz ?_;and_intros <;> intros)
       all_goals first|exact dA|skip
     ·rw[Ds _ _ (fun h=>ib h.1)] at bL;simp only[↓reduceIte] at bL;unfold cj at c1;(try dsimp only at c1);(refine bH c1 ?_;and_intros <;> intros)
      all_goals first
       | (exact⟨(j+1,a8),b4,⟨fh,bL,sx,iZ⟩,ba⟩)
       | (exfalso;omega)
       | skip
    ·rw[ah U] at c1;rw[Ds _ _ (fun h=>U h.2)] at bL;simp only[↓reduceIte] at bL;unfold cj at c1;(try dsimp only at c1);(refine bH c1 ?_;and_intros <;> intros)
     all_goals first
      | (exact⟨(j+1,a8),b4,⟨fh,bL,sx,iZ⟩,ba⟩)
      | (exfalso;omega)
      | skip
   ·have nR:j=(heard.getD k default).Frames.length:=by omega
    subst nR;rw[iJ] at bL;unfold kv at bL
    cases bL
    rw[al rfl] at hm;(try refine ay ?_;and_intros <;> intros)
    all_goals first
     | (exact⟨(k+1,db,a8),b4,⟨au,hm,sx,iZ⟩,ba⟩)
     | skip
  ·have ca:k=heard.length:=by omega
   subst ca;rw[iJ] at hm;unfold kQ at hm
   cases hm
   rw[al rfl] at ap;(try dsimp only at ap);have V1:=si o1 hU an;have iz:=VW ⟨aA,gD,p,bc,bp,ids,bJ,opened,a8,bF,queue,last,bK,bS,code⟩ lost now (W.qa _ V1) (hU.mh an) hU.eg hU.iK (by omega) v5 C e ap;unfold cj at iz;(try dsimp only at iz);(refine bH iz ?_;and_intros <;> intros)
   all_goals first|exact dA|skip
 ·rw[ah ai] at ap
  cases ap
  refine aH Tryz.func148 ?_;(refine bH dC ?_;and_intros <;> intros)
  all_goals first|exact dA|skip
end
end Go.Proofs.YtendheafcbickaaGreat
