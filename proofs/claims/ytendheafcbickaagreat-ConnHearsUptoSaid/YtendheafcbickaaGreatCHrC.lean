
import Derived.Test.YtendheafcbickaaGreatCMg31
set_option linter.unusedVariables false
set_option linter.unusedSimpArgs false
set_option maxHeartbeats 16000000
namespace Go.Proofs.YtendheafcbickaaGreat
variable {f:cS->List V}
set_option maxRecDepth 100000
attribute [local irreducible] cE a6 bu GStep Fn cg bf cA
theorem B5 (l:List cS) (n:Nat) (y:cS):(l.map f).set n (f y)=(l.set n y).map f:=by rw[q3]
theorem LI (l:List cS) (n:Nat) (x y:cS):((l.set n x).map f).set n (f y)=(l.set n y).map f:=by rw[<- q3,List.set_set]
theorem wz {l:List cS} {n:Nat} (h:n<l.length) (y:cS):bb ((l.set n y).map f) n=f y:=by
 rw[gV f yn,bZ,nU,al rfl,al h];rfl
theorem SJ {B:Nat} (u:Int->Value) (c:aG) (f:bo) (ad:c3 c) (ao:cK B c) (an:B<=16777216) (hf:dx f) (hu:∀ i,c.cN<=i->u i = .slice none 0 0) (C:aG) (e:Int) (ap:iU oD c f=(C,e)) (H:List (Nat×Option aT)) (hH:(e=0/\H=[(0,some (.box 116 (a1 C (.own 3) (.own 4)))),(3,some (.row 134 16 (C.aq.map (aV u)))),(4,some (.row 111 7 (C.Queue.map aO)))])\/(e≠0/\H=[(0,some (.box 116 (a1 C (.own 3) (.own 4))))])) :
  cA Tryz.prog 131 [.ptr 0 0 0 0,.agg (aO f)] [(0,some (.box 116 (a1 c (.own 1) (.own 2)))),(1,some (.row 134 16 (c.aq.map (aV u)))),(2,some (.row 111 7 (c.Queue.map aO)))] 3 (I e) H 5:=by
 have uD:=q1 (id:=f.Id) ad ao;have au:=wx u c f.Id ao.eg ad.op.1 (by have:=ad.jf;omega) hu;unfold iU at ap;generalize eV c f.Id=K at *;obtain ⟨dH,aI⟩:=K;have au:=au dH aI rfl;dsimp only at *;obtain ⟨mD,k5,q2,uE⟩:=uD;have pn:=hf.2.2.1;have FI:=hf.2.2.2.1;clear ad ao;obtain ⟨cF,cn,cL,fin,dj,dI,dh⟩:=f;unfold a1 at au ⊢;dsimp only at *;by_cases ai:aI=0
 ·subst ai;rw[al rfl] at ap;by_cases U:b7 dH.aq cn<dH.aq.length
  ·rw[al U] at ap;have au:=au _ (.inr (.inl ⟨rfl,U,rfl⟩));have dN:=k5.gK _ (cc U);have cR:=gV (aV u) U;have cf:b7 dH.aq cn<(dH.aq.map (aV u)).length:=by rw[bY];exact U
   generalize b7 dH.aq cn=n at *;have FJ:=mD.dv;have LB:=mD.h7;have BY:=k5.iK;have ly:=k5.eg;clear mD k5 uE q2;obtain ⟨aA,space,bg,bc,bp,ids,bJ,opened,aC,bF,queue,last,bK,bS,code⟩:=dH;generalize j4:aC.getD n default=x at *;obtain ⟨aZ,cx,rd,b8,fm,out⟩:=x;unfold lz at dN;dsimp only at *;have cR:bb (aC.map (aV u)) n=[I aZ,I cx.bQ,.ro ((cx.aD).map b5),I (cx.c8),I (cx.bj),.lit (u aZ),ab b8,ab fm,.ro ((out.Data).map bm),ab out.Fin,I out.Next,I (out.Max),.ro ((out.cO).map aB),.ro ((out.cI).map aB),ab out.fo,ab out.Over]:=cR;have jh:=FL cx dN.2.2.1;obtain ⟨p8,SK,oG,SL,SM⟩:=pr dN.2.2.1;have oH:=wB oG;have SN:=(sV oG).1;unfold gj at p8;subst oH;unfold oD cV at ap;dsimp only at ap;rw[j4] at ap;dsimp only at ap;unfold aE at pn FI
   cases fm
   ·rw[ah iS] at ap;by_cases t1:cL<eO cx\/(0<=cx.c8/\cx.c8≠cL)
    ·rw[al t1] at ap
     cases ap
     rcases hH with⟨h,_⟩ | ⟨_,rfl⟩
     ·(first|exact absurd h (by decide)|(exfalso;omega))
     ·(try unfold a1 fE dw gJ dM);(try unfold a1 dw gJ dM);(try unfold a1 dM);(try unfold a1);(try dsimp only);refine aH Tryz.func131 ?_;refine sW ?_;(refine yo ?_;and_intros <;> intros)
      all_goals first|exact ed|skip
    ·rw[ah t1] at ap;by_cases t2:cx.bj<cL
     ·rw[al t2] at ap
      cases ap
      rcases hH with⟨h,_⟩ | ⟨_,rfl⟩
      ·(first|exact absurd h (by decide)|(exfalso;omega))
      ·(try unfold a1 fE dw gJ dM);(try unfold a1 dw gJ dM);(try unfold a1 dM);(try unfold a1);(try dsimp only);refine aH Tryz.func131 ?_;refine sW ?_;(refine yo ?_;and_intros <;> intros)
       all_goals first|exact ed|skip
     ·rw[ah t2] at ap;have gv:=LJ bc (cL - eO cx) (by have:=p8.1;have:=p8.2.2.2.1;unfold aE;omega);generalize j3 bc (cL - eO cx)=FM at *;obtain ⟨yp,uG⟩:=FM;dsimp only at *;by_cases t3:uG=0
      ·subst t3;rw[ah (fun h=>h rfl)] at ap;by_cases t4:bK=4
       ·rw[al t4] at ap
        cases ap
        rcases hH with⟨h,_⟩ | ⟨_,rfl⟩
        ·(first|exact absurd h (by decide)|(exfalso;omega))
        ·(try unfold a1 fE dw gJ dM);(try unfold a1 dw gJ dM);(try unfold a1 dM);(try unfold a1);(try dsimp only);refine aH Tryz.func131 ?_;refine sW ?_;(refine yo ?_;and_intros <;> intros)
         all_goals first|exact ed|skip
       ·rw[ah t4] at ap
        cases ap
        rcases hH with⟨_,rfl⟩ | ⟨h,_⟩
        ·have fR:n<((aC.set n ⟨aZ,cx,rd,b8,true,out⟩).map (aV u)).length:=by rw[bY,e1];exact U
         have SO:n<((aC.set n ⟨aZ,cx,rd,true,true,out⟩).map (aV u)).length:=by rw[bY,e1];exact U
         have B6:max cx.bj cL=cx.bj:=by
          rw[Int.max_def];split <;> omega
         have fu:bb ((aC.set n ⟨aZ,cx,rd,true,true,out⟩).map (aV u)) n=[I aZ,I cx.bQ,.ro ((cx.aD).map b5),I (cx.c8),I (cx.bj),.lit (u aZ),ab true,ab true,.ro ((out.Data).map bm),ab out.Fin,I out.Next,I (out.Max),.ro ((out.cO).map aB),.ro ((out.cI).map aB),ab out.fo,ab out.Over]:=wz (f:=aV u) U ⟨aZ,cx,rd,true,true,out⟩;(try unfold a1 fE dw gJ dM);(try unfold a1 dw gJ dM);(try unfold a1 dM);(try unfold a1);(try dsimp only);refine aH Tryz.func131 ?_;refine sW ?_;(repeat' first|(refine dL [0,3,4] (au) (h:=?_))|(refine fi [0,3,4] (au) (h:=?_))|(refine gd [0,3,4] (au) (h:=?_))|refine bh jh ?_|refine bh gv ?_|(refine lT (r:=(aC.set n ⟨aZ,cx,rd,b8,true,out⟩).map (aV u)) ?_ ?_ (h:=?_);(exact gX);(focus ((rw[cR];exact B5 aC n ⟨aZ,cx,rd,b8,true,out⟩))))|(refine lU (r:=(aC.set n ⟨aZ,cx,rd,b8,true,out⟩).map (aV u)) ?_ ?_ (h:=?_);(exact gX);(focus ((rw[cR];exact B5 aC n ⟨aZ,cx,rd,b8,true,out⟩))))|(refine lT (r:=(aC.set n ⟨aZ,cx,rd,true,true,out⟩).map (aV u)) ?_ ?_ (h:=?_);(exact gX);(exact LK))|(refine lU (r:=(aC.set n ⟨aZ,cx,rd,true,true,out⟩).map (aV u)) ?_ ?_ (h:=?_);(exact gX);(exact LK))|refine cb (hq:=j5 rfl rfl rfl rfl) (h:=?_)|refine cb (hq:=k6 rfl rfl rfl rfl) (h:=?_)|refine lA cf cR ?_|refine gU [] (h:=?_)|(refine pq 16 ?_;(and_intros <;> intros))|refine dS ?_|fail)
         all_goals try (exfalso;omega)
         all_goals (refine gW ?_;refine gU [(16,6)] ?_;(repeat' first|refine lA SO fu ?_|refine rQ (hq:=fun _=>yl rfl rfl rfl rfl) (h:=?_)|(refine lT (r:=((aC.set n ⟨aZ,cx,rd,true,true,out⟩).map (aV u)).set n [I aZ,I cL,aX,I cL,I (max cx.bj cL),.lit (u aZ),ab true,ab true,.ro (out.Data.map bm),ab out.Fin,I out.Next,I out.Max,.ro (out.cO.map aB),.ro (out.cI.map aB),ab out.fo,ab out.Over]) ?_ ?_ (h:=?_);(exact gX);(focus ((rw[fu];rfl))))|(refine lU (r:=((aC.set n ⟨aZ,cx,rd,true,true,out⟩).map (aV u)).set n [I aZ,I cL,aX,I cL,I (max cx.bj cL),.lit (u aZ),ab true,ab true,.ro (out.Data.map bm),ab out.Fin,I out.Next,I out.Max,.ro (out.cO.map aB),.ro (out.cI.map aB),ab out.fo,ab out.Over]) ?_ ?_ (h:=?_);(exact gX);(focus ((rw[fu];rfl))))|(refine pq 17 ?_;(and_intros <;> intros))|refine dS ?_|fail);refine gH (FK (id:=6) (f:=aV u) (L:=aC.set n ⟨aZ,cx,rd,true,true,out⟩) (n:=n) (y:=⟨aZ,⟨cL,[],cL,cx.bj⟩,rd,true,true,out⟩) (c:=[I aZ,I cL,aX,I cL,I (max cx.bj cL),.lit (u aZ),ab true,ab true,.ro (out.Data.map bm),ab out.Fin,I out.Next,I out.Max,.ro (out.cO.map aB),.ro (out.cI.map aB),ab out.fo,ab out.Over]) rfl (List.set_set ..) (by(repeat'(first|exact ps.nil|apply ps.cons|exact .inl rfl|exact .inr ⟨rfl,rfl⟩|exact .inl (congrArg (fun z=>V.lit (.int .i64 z)) B6))))) ?_;(try refine ay ?_;and_intros <;> intros))
         all_goals first|exact ed|skip
        ·exact absurd rfl h
      ·rw[al t3] at ap
       cases ap
       rcases hH with⟨h,_⟩ | ⟨_,rfl⟩
       ·(first|exact absurd h (by decide)|exact absurd h t3)
       ·(try unfold a1 fE dw gJ dM);(try unfold a1 dw gJ dM);(try unfold a1 dM);(try unfold a1);(try dsimp only);refine aH Tryz.func131 ?_;refine sW ?_;(refine yo ?_;and_intros <;> intros)
        all_goals first|exact ed|skip
   ·rw[al rfl] at ap
    cases ap
    rcases hH with⟨_,rfl⟩ | ⟨h,_⟩
    ·(try unfold a1 fE dw gJ dM);(try unfold a1 dw gJ dM);(try unfold a1 dM);(try unfold a1);(try dsimp only);refine aH Tryz.func131 ?_;refine sW ?_;(refine yo ?_;and_intros <;> intros)
     all_goals first|exact ed|skip
    ·exact absurd rfl h
  ·rw[ah U] at ap
   cases ap
   have au:=au _ (.inr (.inr ⟨rfl,U,rfl⟩));rcases hH with⟨_,rfl⟩ | ⟨h,_⟩
   ·(try unfold a1 fE dw gJ dM);(try unfold a1 dw gJ dM);(try unfold a1 dM);(try unfold a1);(try dsimp only);refine aH Tryz.func131 ?_;refine sW ?_;(refine wA ?_;and_intros <;> intros)
    all_goals first|exact ed|skip
   ·exact absurd rfl h
 ·rw[ah ai] at ap
  cases ap
  have au:=au _ (.inl ⟨ai,rfl⟩);rcases hH with⟨h,_⟩ | ⟨_,rfl⟩
  ·exact absurd h ai
  ·(try unfold a1 fE dw gJ dM);(try unfold a1 dw gJ dM);(try unfold a1 dM);(try unfold a1);(try dsimp only);refine aH Tryz.func131 ?_;refine sW ?_;(refine wA ?_;and_intros <;> intros)
   all_goals first|exact ed|skip
end Go.Proofs.YtendheafcbickaaGreat
