
import Derived.Test.YtendheafcbickaaGreatCMg45
import Derived.Test.YtendheafcbickaaGreatCHxK
set_option linter.unusedVariables false
set_option linter.unusedSimpArgs false
set_option maxHeartbeats 16000000
namespace Go.Proofs.YtendheafcbickaaGreat
set_option maxRecDepth 100000
attribute [local irreducible] cE a6 bu GStep Fn cg bf cA
theorem Tj {B:Nat} (c:aG) (f:bo) (now:Int) (ad:c3 c) (ao:cK B c) (an:B<=16777216) (gw:dx f) (hff:gx f=0) (hd:f.Data.length<=120) (C:aG) (e:Int) (ap:gY c f now=(C,e)) :
  Fn Tryz.prog 69 [.agg (cj c),.agg (aO f),I now] (.bN [.agg (cj C),I e]):=by
 by_cases ib:f.Kind=8
 ·refine Tk c f now ad ao an gw hff hd ib C e ?_;rw[<- ap];unfold gY;rw[ah (by omega),al ib]
 by_cases jI:f.Kind=4
 ·refine SR c f now ad ao an gw hff hd jI C e ?_;rw[<- ap];unfold gY;rw[ah (by omega),ah ib,al jI]
 by_cases mC:f.Kind=5
 ·refine SS c f now ad ao an gw hff hd mC C e ?_;rw[<- ap];unfold gY;rw[ah (by omega),ah ib,ah jI,al mC]
 by_cases qf:f.Kind=17
 ·refine SP c f now ad ao an gw hff hd qf C e ?_;rw[<- ap];unfold gY;rw[ah (by omega),ah ib,ah jI,ah mC,ah (by omega),al qf]
 ·exact Tl c f now ad ao an gw hff ⟨ib,jI,mC,qf⟩ C e ap
theorem Tm {B:Nat} (c:aG) (now number:Int) (l:List bo) (hu:W.fw c) (lv:nj c=0->c3 c/\cK B c) (an:B+1440<=16777216) (il:∀ f ∈ l,dx f) (hK:l.length<=1048576) :
  Fn Tryz.prog 23 [.agg (cj c),I now,I number,.ro (l.map aO)] (yy (uS c now number l)):=by
 have hw:=W.qa c hu;have J:=SZ c hu;have rX:=Tn c.aQ number hw.1;unfold uS yy;generalize Cj:nj c=yz at *;clear hu hw;by_cases ai:yz=0
 ·subst ai;rw[al rfl];obtain ⟨eG,cw⟩:=lv rfl;clear lv;by_cases hn:0<=now/\now<=1099511627776/\l.length<=12
  ·rw[al hn];generalize ax:oM l=E;generalize ap:(if E=0 then(if c.fj=true then(default,false,17) else if (km c.aQ number).2.2≠0 then(default,false,(km c.aQ number).2.2) else if (km c.aQ number).2.1=false then(c,false,0) else(uT (nZ (iy c (km c.aQ number).1) (max now c.dT)) (max now c.dT) l,true,0)) else(default,false,E):aG×Bool×Int)=R;have rY:=Gd c.aQ number eG.sp;have bW:0<=max now c.dT/\max now c.dT<=1099511627776:=by have:=eG.a8;rw[Int.max_def];split <;> omega
   have n1:∀ s,bT.gM s->c3 (nZ (iy c s) (max now c.dT)):=fun s aw=>⟨eG.op,eG.jf,eG.id,eG.dv,eG.mg,aw,eG.lC,bW,eG.h7,eG.n2⟩
   have n3:∀ s,cK B (nZ (iy c s) (max now c.dT)):=fun s=>⟨cw.eg,cw.lD,cw.gK,cw.iK,cw.nn⟩
   clear Cj eG cw;unfold nZ iy at *;obtain ⟨aA,space,bg,bc,bp,ids,bJ,opened,aC,bF,queue,last,bK,bS,code⟩:=c;dsimp only at *;refine aH Tryz.func23 ?_;(refine rI ?_;and_intros <;> intros)
   all_goals try (exfalso;omega)
   refine cv (fun k:Nat=>⟨[(1,I now),(2,I number),(3,.ro (l.map aO)),(4,.ptr 0 0 0 0),(8,.ptr 1 0 0 0),(38,.ro (l.map aO)),(39,I l.length),(40,I k)],[(0,some (.box 51 [ab aA,I space.Next,.ro (space.aR.map bC),I space.c9,.ro (space.cD.map aB),.ro (space.bI.map encI),I bg.bj,I bg.dy,I bg.c0,I bg.Since,I bc.Max,I bc.bG,I bp.Max,I bp.bG,I ids,I bJ,I opened,.ro (aC.map eo),ab bF,.ro (queue.map aO),I last,I bK,ab bS,I code])),(1,some (.box 51 [ab false,I 0,aX,I 0,aX,aX,I 0,I 0,I 0,I 0,I 0,I 0,I 0,I 0,I 0,I 0,I 0,aX,ab false,aX,I 0,I 0,ab false,I 0]))],2,Tryz.f23.ntmps⟩)
    (fun k=>k<=l.length/\oM (l.drop k)=E) (fun k=>l.length - k) 0 ⟨cm _,ax⟩ fP ?_
   rintro k ⟨ag,mm⟩;by_cases au:k<l.length
   ·have hf:=il _ (cc au);have az:=LQ (l.getD k default) hf;rw[drop_cons au,L7] at mm;clear il hf ax n1 n3 rX rY J bW;generalize gx (l.getD k default)=Ge at *;by_cases hff:Ge=0
    ·subst hff;rw[al rfl] at mm;clear ap;(refine bH az ?_;and_intros <;> intros)
     all_goals first
      | (exact⟨k+1,(by omega),⟨au,mm⟩,ba⟩)
      | (exfalso;omega)
      | skip
    ·rw[ah hff] at mm;subst mm;rw[ah hff] at ap;subst ap;(refine bH az ?_;and_intros <;> intros)
     all_goals first|exact dA|skip
   ·have ca:k=l.length:=by omega
    subst ca;rw[iJ] at mm;unfold oM at mm;subst mm;rw[al rfl] at ap;have im:=Ck ax;clear ax J
    cases bS
    ·rw[ah iS] at ap;generalize km space number=S at *;obtain ⟨s2,Gf,uG⟩:=S;unfold wG at rX;dsimp only at *;by_cases s9:uG=0
     ·subst s9;rw[ah (fun h=>h rfl)] at ap
      cases Gf
      ·rw[al rfl] at ap;subst ap;dsimp only;clear n1 n3 il im rY bW;(refine bH rX ?_;and_intros <;> intros)
       all_goals first|exact dA|skip
      ·rw[ah Bool.noConfusion] at ap;have To:=hn.2.2;have n1:=n1 s2 rY;have n3:=n3 s2;rw[Int.max_comm] at bW n1 n3 ap;generalize yA:max last now=lt at *;unfold uT at ap;generalize aY:kN lt ⟨aA,s2,bg,bc,bp,ids,bJ,opened,aC,bF,queue,lt,bK,false,code⟩ l=T at ap;obtain ⟨C,e⟩:=T;(try dsimp only at ap);(refine bH rX ?_;and_intros <;> intros)
       all_goals try (exfalso;omega)
       rw[yA];refine cv (fun x:Nat×aG=>⟨[(4,.ptr 0 0 0 0),(8,.ptr 1 0 0 0),(76,.ro (l.map aO)),(77,I l.length),(78,I x.1)],[(0,some (.box 51 [ab x.2.Client,I x.2.aQ.Next,.ro (x.2.aQ.aR.map bC),I x.2.aQ.c9,.ro (x.2.aQ.cD.map aB),.ro (x.2.aQ.bI.map encI),I x.2.cy.bj,I x.2.cy.dy,I x.2.cy.c0,I x.2.cy.Since,I x.2.di.Max,I x.2.di.bG,I x.2.eh.Max,I x.2.eh.bG,I x.2.gQ,I x.2.gR,I x.2.cN,.ro (x.2.aq.map eo),ab x.2.fT,.ro (x.2.Queue.map aO),I x.2.dT,I x.2.gP,ab x.2.fj,I x.2.Code])),(1,some (.box 51 [ab false,I 0,aX,I 0,aX,aX,I 0,I 0,I 0,I 0,I 0,I 0,I 0,I 0,I 0,I 0,I 0,aX,ab false,aX,I 0,I 0,ab false,I 0]))],2,Tryz.f23.ntmps⟩)
        (fun x=>x.1<=l.length/\c3 x.2/\cK (B+120 * x.1) x.2/\x.2.fj=false/\x.2.dT=lt/\kN lt x.2 (l.drop x.1)=(C,e)) (fun x=>l.length - x.1) (0,⟨aA,s2,bg,bc,bp,ids,bJ,opened,aC,bF,queue,lt,bK,false,code⟩) ⟨cm _,n1,n3,rfl,rfl,aY⟩ fP ?_
       clear aY n1 n3 bW yA rX rY hn;rintro ⟨k,d⟩ ⟨ag,eG,cw,e7,wF,aY⟩;dsimp only at *;by_cases au:k<l.length
       ·have hf:=il _ (cc au);have px:=im _ (cc au);have wH:=Gg px;have qg:=sX px;rw[drop_cons au,L8] at aY;obtain ⟨gl,mn⟩:∃ gl,gl=(d.fT || oN (l.getD k default).Kind):=⟨_,rfl⟩;(repeat' first|(refine fI 25 ?_;(and_intros <;> intros))|fail)
        all_goals try (exfalso;omega)
        generalize (l.getD k default)=f at *;obtain ⟨cF,cn,cL,fin,dj,dI,dh⟩:=f;obtain ⟨aA,space,bg,bc,bp,ids,bJ,opened,aC,bF,queue,last,bK,bS,code⟩:=d;dsimp only at *;subst e7;refine je (fun gl:Bool=>⟨[(4,.ptr 0 0 0 0),(8,.ptr 1 0 0 0),(76,.ro (l.map aO)),(77,I l.length),(78,I k),(19,.ptr 2 0 0 0)],[(0,some (.box 51 [ab aA,I space.Next,.ro (space.aR.map bC),I space.c9,.ro (space.cD.map aB),.ro (space.bI.map encI),I bg.bj,I bg.dy,I bg.c0,I bg.Since,I bc.Max,I bc.bG,I bp.Max,I bp.bG,I ids,I bJ,I opened,.ro (aC.map eo),ab gl,.ro (queue.map aO),I last,I bK,ab false,I code])),(1,some (.box 51 [ab false,I 0,aX,I 0,aX,aX,I 0,I 0,I 0,I 0,I 0,I 0,I 0,I 0,I 0,I 0,I 0,aX,ab false,aX,I 0,I 0,ab false,I 0])),(2,some (.box 111 [I cF,I cn,I cL,ab fin,I dj,.ro (dI.map aB),.ro (dh.map bm)]))],3,Tryz.f23.ntmps⟩) (fun z=>z=gl) ?_ ?_
        ·clear aY ap eG cw hf px wH qg il im wF;have aI:bF=true->gl=true:=fun h=>by rw[mn,h,Bool.true_or]
         have a7:bF=false->cF=2->gl=false:=fun h de=>by rw[mn,h,de];decide
         have cC:bF=false->cF=0->gl=false:=fun h de=>by rw[mn,h,de];decide
         have eI:bF=false->cF=28->gl=false:=fun h de=>by rw[mn,h,de];decide
         have fZ:bF=false -> ¬ cF=2 -> ¬ cF=0 -> ¬ cF=28->gl=true:=fun h de eW hs=>by
          rw[mn,h];unfold oN;rw[decide_eq_true de,decide_eq_true eW,decide_eq_true hs];rfl
         clear mn
         cases bF
         ·by_cases de:cF=2
          ·obtain rfl:=a7 rfl de;clear aI a7 cC eI fZ;(try refine ay ?_;and_intros <;> intros)
           all_goals first|exact Gh|skip
          ·by_cases eW:cF=0
           ·obtain rfl:=cC rfl eW;clear aI a7 cC eI fZ;(try refine ay ?_;and_intros <;> intros)
            all_goals first|exact Gh|skip
           ·by_cases hs:cF=28
            ·obtain rfl:=eI rfl hs;clear aI a7 cC eI fZ;(try refine ay ?_;and_intros <;> intros)
             all_goals first|exact Gh|skip
            ·obtain rfl:=fZ rfl de eW hs;clear aI a7 cC eI fZ;(try refine ay ?_;and_intros <;> intros)
             all_goals first
              | (exact⟨true,rfl,ba⟩)
              | (exfalso;omega)
              | skip
         ·obtain rfl:=aI rfl;clear aI a7 cC eI fZ;(try refine ay ?_;and_intros <;> intros)
          all_goals first
           | (exact⟨true,rfl,ba⟩)
           | (exfalso;omega)
           | skip
        rintro z aU;replace aU:=aU.symm;subst aU;rw[<- mn] at aY;clear mn;have qh:=Gi (b:=gl) eG;have iz:=Gj (b:=gl) cw;have py:=yB (now:=last) qh iz (by omega) hf wH.1 qg.2;have pz:=fun hs=>L9 (iW ⟨aA,space,bg,bc,bp,ids,bJ,opened,aC,bF,queue,last,bK,false,code⟩ gl) ⟨cF,cn,cL,fin,dj,dI,dh⟩ last hs
        have hY:=Tj (iW ⟨aA,space,bg,bc,bp,ids,bJ,opened,aC,bF,queue,last,bK,false,code⟩ gl) ⟨cF,cn,cL,fin,dj,dI,dh⟩ last qh iz (by omega) hf px wH.1;have wI:cF=28->(gY (iW ⟨aA,space,bg,bc,bp,ids,bJ,opened,aC,bF,queue,last,bK,false,code⟩ gl) ⟨cF,cn,cL,fin,dj,dI,dh⟩ last).1.fj=true/\(gY (iW ⟨aA,space,bg,bc,bp,ids,bJ,opened,aC,bF,queue,last,bK,false,code⟩ gl) ⟨cF,cn,cL,fin,dj,dI,dh⟩ last).2=0:=fun hs=>by
         unfold gY;dsimp only;rw[ah (by omega),ah (by omega),ah (by omega),ah (by omega),ah (by omega),ah (by omega),ah (by omega),ah (by omega),al hs];exact⟨rfl,rfl⟩
        subst wF;clear eG cw qh iz hf px;generalize gY (iW ⟨aA,space,bg,bc,bp,ids,bJ,opened,aC,bF,queue,last,bK,false,code⟩ gl) ⟨cF,cn,cL,fin,dj,dI,dh⟩ last=Tp at *;obtain ⟨jk,a7⟩:=Tp;have hY:=hY jk a7 rfl;unfold iW at hY;dsimp only at *;have uU:=Ma jk a7;obtain ⟨d0,d1,d2,d3,d4,d5,d6,d7,d8,d9,d10,d11,d12,d13,d14⟩:=jk;unfold cj at hY uU;dsimp only at *;by_cases he:a7=0
        ·subst he;by_cases hs:cF=28
         ·obtain ⟨qi,_⟩:=wI hs;subst qi;rw[ah (fun h=>by cases h.2)] at aY
          cases aY
          rw[al rfl,al rfl] at ap;subst ap;clear py pz wI uU il im;(refine bH hY ?_;and_intros <;> intros)
          all_goals first|exact dA|skip
         ·have pz:=pz hs;unfold iq iW at pz;(try dsimp only at pz);obtain ⟨ta,wJ⟩:=pz;subst wJ;obtain rfl:=ta;rw[al ⟨rfl,rfl⟩] at aY;obtain ⟨g1,_,g3⟩:=py;have g3:=g3 rfl;clear wI uU ap;(refine bH hY ?_;and_intros <;> intros)
          all_goals first
           | (exact⟨(k+1,⟨d0,d1,d2,d3,d4,d5,d6,d7,d8,d9,d10,d11,d12,false,d14⟩),b4,⟨au,g1,g3.mono (by omega),rfl,rfl,aY⟩,ba⟩)
           | (exfalso;omega)
           | skip
        ·rw[ah (fun h=>he h.1)] at aY
         cases aY
         rw[ah he] at ap;subst ap;clear py pz wI il im;(refine jJ hY uU ?_;and_intros <;> intros)
         all_goals first|exact dA|skip
       ·have ca:k=l.length:=by omega
        subst ca;rw[iJ] at aY;unfold kN at aY
        cases aY
        rw[al rfl,e7,ah iS] at ap;obtain ⟨ew,er,eK⟩:=Tq (lb C).2 C;have yC:=Tr C eG cw;generalize uV C=Q at *;obtain ⟨n4,cC⟩:=Q;have yC:=yC n4 cC rfl;have uU:=Ma n4 cC;generalize lb C=Ts at *;obtain ⟨rZ,eI⟩:=Ts;dsimp only at *;subst ew;clear eG cw e7 il im;obtain ⟨aA,space,bg,bc,bp,ids,bJ,opened,aC,bF,queue,last,bK,bS,code⟩:=C;unfold cj at yC;dsimp only at *;by_cases he:cC=0
        ·subst he;rw[al rfl] at ap;obtain rfl:=er rfl;subst ap;clear uU eK er;(refine bH yC ?_;and_intros <;> intros)
         all_goals first|exact dA|skip
        ·rw[ah he,<- eK] at ap;subst ap;(refine jJ yC uU ?_;and_intros <;> intros)
         all_goals first|exact dA|skip
     ·rw[al s9] at ap;subst ap;clear n1 n3 il im rY bW;(refine bH rX ?_;and_intros <;> intros)
      all_goals first|exact dA|skip
    ·rw[al rfl] at ap;subst ap;clear n1 n3 il im rY bW rX;(try refine ay ?_;and_intros <;> intros)
     all_goals first|exact dA|skip
  ·rw[ah hn];clear Cj eG cw rX il;obtain ⟨aA,space,bg,bc,bp,ids,bJ,opened,aC,bF,queue,last,bK,bS,code⟩:=c;dsimp only at *;refine aH Tryz.func23 ?_;(refine rI ?_;and_intros <;> intros)
   all_goals (try dsimp only at *)
   all_goals first
    | (exact gS)
    | (exfalso;omega)
    | (exfalso;dsimp only at *;omega)
    | skip
 ·rw[ah ai];clear lv;clear rX il;rcases Gk c with⟨g0,_⟩ | ⟨g0,_⟩
  ·omega
  ·obtain rfl:yz=9:=by omega
   obtain ⟨aA,space,bg,bc,bp,ids,bJ,opened,aC,bF,queue,last,bK,bS,code⟩:=c;dsimp only at *;refine aH Tryz.func23 ?_;(refine bH J ?_;and_intros <;> intros)
   all_goals (try dsimp only at *)
   all_goals first|exact dA|skip
end Go.Proofs.YtendheafcbickaaGreat
