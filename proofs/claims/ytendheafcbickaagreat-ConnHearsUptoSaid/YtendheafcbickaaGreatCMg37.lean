/-
  SEVERAL TEXTS IN ONE: each with its own comment.
-/
import Derived.Test.YtendheafcbickaaGreatCHrC
set_option linter.unusedVariables false
set_option linter.unusedSimpArgs false
set_option maxHeartbeats 16000000
namespace Go.Proofs.YtendheafcbickaaGreat
variable {B:Nat}
section
set_option maxRecDepth 100000
theorem FH {P:Program} {fn:FuncId} {args:List V} {ai H:List (Nat×Option aT)} {e:Int} {a b c:aT} (hf:cA P fn args ai 3 (I e) [(0,some a),(3,some b),(4,some c)] 5) (hH:(e=0/\H=[(0,some a),(3,some b),(4,some c)])\/(e≠0/\H=[(0,some a)])):cA P fn args ai 3 (I e) H 5:=by
 rcases hH with⟨_,rfl⟩ | ⟨_,rfl⟩
 ·exact hf
 ·refine ⟨hf.1,hf.2.1,fun F base w0 ρ w fQ cZ hH iT=>(hf.2.2 F base w0 ρ w fQ cZ hH iT).mono fun e aF ⟨v,bl,he,aL,aS,bi⟩=>?_⟩;have hc:uC [(0,some a),(3,some b),(4,some c)] [(0,some a)]:=⟨rfl,trivial⟩;have aw:∀ fD,bs F bl [(0,some a),(3,some b),(4,some c)] fD -> bs F bl [(0,some a)] fD:=fun fD h=>⟨h.1,fun id B u an ae hu=>h.2 id B u (nT hc id B an) ae hu⟩
  refine ⟨v,bl,he,⟨⟨aL.below,aL.fl,aL.sup,fun id dk B bd u dD fD an b0=>aL.inj id dk B bd u dD fD (nT hc id B an) (nT hc dk bd b0),fun id B an=>?_⟩,aL.dX⟩,aS.mono (dl.refl _ _) (fun fD h _=>aw fD h) (fun _ _ h=>h),bi⟩;exact(aL.cJ id B (nT hc id B an)).mono (dl.refl _ _) (fun fD h _=>aw fD h) (fun _ _ h=>h) (fun _ _ _ _ _ _=>rfl)
attribute [local irreducible] cE a6 bu GStep Fn cg bf cA
theorem SC (u:Int->Value) (c:aG) (f:bo) (ad:c3 c) (ao:cK B c) (an:B<=16777216) (hf:dx f) (hu:∀ i,c.cN<=i->u i = .slice none 0 0) (C:aG) (e:Int) (ap:iU p4 c f=(C,e)) (H:List (Nat×Option aT)) (hH:(e=0/\H=[(0,some (.box 116 (a1 C (.own 3) (.own 4)))),(3,some (.row 134 16 (C.aq.map (aV u)))),(4,some (.row 111 7 (C.Queue.map aO)))])\/(e≠0/\H=[(0,some (.box 116 (a1 C (.own 3) (.own 4))))])) :
  cA Tryz.prog 132 [.ptr 0 0 0 0,.agg (aO f)] [(0,some (.box 116 (a1 c (.own 1) (.own 2)))),(1,some (.row 134 16 (c.aq.map (aV u)))),(2,some (.row 111 7 (c.Queue.map aO)))] 3 (I e) H 5:=by
 have uD:=q1 (id:=f.Id) ad ao;have au:=wx u c f.Id ao.eg ad.op.1 (by have:=ad.jf;omega) hu;unfold iU at ap;generalize eV c f.Id=K at *;obtain ⟨dH,aI⟩:=K;have au:=au dH aI rfl;dsimp only at *;obtain ⟨mD,k5,q2,uE⟩:=uD;have pn:=hf.2.2.1;have FI:=hf.2.2.2.1;clear ad ao;obtain ⟨cF,cn,cL,fin,dj,dI,dh⟩:=f;unfold a1 at au ⊢;dsimp only at *;by_cases ai:aI=0
 ·subst ai;rw[al rfl] at ap;by_cases U:b7 dH.aq cn<dH.aq.length
  ·rw[al U] at ap;have au:=au _ (.inr (.inl ⟨rfl,U,rfl⟩));have dN:=k5.gK _ (cc U);have cR:=gV (aV u) U;have cf:b7 dH.aq cn<(dH.aq.map (aV u)).length:=by rw[bY];exact U
   generalize b7 dH.aq cn=n at *;have FJ:=mD.dv;have LB:=mD.h7;have BY:=k5.iK;have ly:=k5.eg;clear mD k5 uE q2;obtain ⟨aA,space,bg,bc,bp,ids,bJ,opened,aC,bF,queue,last,bK,bS,code⟩:=dH;generalize j4:aC.getD n default=x at *;obtain ⟨aZ,cx,rd,b8,fm,out⟩:=x;unfold lz at dN;dsimp only at *;have cR:bb (aC.map (aV u)) n=[I aZ,I cx.bQ,.ro ((cx.aD).map b5),I (cx.c8),I (cx.bj),.lit (u aZ),ab b8,ab fm,.ro ((out.Data).map bm),ab out.Fin,I out.Next,I (out.Max),.ro ((out.cO).map aB),.ro ((out.cI).map aB),ab out.fo,ab out.Over]:=cR;have h8:=SD out (bT.uF _ dN.2.2.2.2.1);have SE:=dN.2.2.2.2.2.1;unfold p4 cV at ap;dsimp only at ap;rw[j4] at ap;dsimp only at ap
   cases oE:p5 out
   ·rw[oE] at h8 ap;rw[ah iS] at ap;unfold po at ap;obtain ⟨m,hm⟩:∃ m,m=out.Next.toNat:=⟨_,rfl⟩;rw[<- hm] at ap;by_cases t1:0<out.Next
    ·rw[al t1] at ap;have aY:=wy u ⟨aA,space,bg,bc,bp,ids,bJ,opened,(aC.set n ⟨aZ,cx,rd,b8,fm,⟨List.replicate m 0,true,out.Next,max out.Max out.Next,[],[⟨0,out.Next - 1⟩],false,true⟩⟩),bF,queue,last,bK,bS,code⟩ (oF cn out.Next dj) BY;unfold oF fE dw at ap;unfold oF a1 at aY;dsimp only at ap aY;generalize fK queue ⟨4,cn,out.Next,false,dj,[],[]⟩=T at *;obtain ⟨rP,p6⟩:=T;dsimp only at ap aY
     cases ap
     refine FH ?_ hH;have fR:n<((aC.set n ⟨aZ,cx,rd,b8,fm,⟨List.replicate m 0,true,out.Next,max out.Max out.Next,[],[],false,true⟩⟩).map (aV u)).length:=by rw[bY,e1];exact U
     have fu:=wz (f:=aV u) U ⟨aZ,cx,rd,b8,fm,⟨List.replicate m 0,true,out.Next,max out.Max out.Next,[],[],false,true⟩⟩;(try unfold a1 fE dw gJ dM);(try unfold a1 dw gJ dM);(try unfold a1 dM);(try unfold a1);(try dsimp only);refine aH Tryz.func132 ?_;refine yk ?_;(refine LC ?_;and_intros <;> intros)
     all_goals try (exfalso;omega)
     all_goals (refine gW ?_;refine gU [(14,6)] ?_;(repeat' first|refine lA cf cR ?_|(refine BZ (by_:=1) (r:=(List.replicate m (0:UInt8)).map bm) m ?_ ?_ ?_ ?_ ?_ (h:=?_);(focus omega);(focus omega);(exact B0);(focus omega);(focus omega))|refine rQ (hq:=fun _=>yl rfl rfl rfl rfl) (h:=?_)|(refine lT (r:=(aC.map (aV u)).set n [I aZ,I cx.bQ,.ro (cx.aD.map b5),I cx.c8,I cx.bj,.lit (u aZ),ab b8,ab fm,.ro ((List.replicate m (0:UInt8)).map bm),ab true,I out.Next,I (max out.Max out.Next),aX,aX,ab false,ab true]) ?_ ?_ (h:=?_);(exact gX);(focus ((rw[cR];rfl))))|(refine lU (r:=(aC.map (aV u)).set n [I aZ,I cx.bQ,.ro (cx.aD.map b5),I cx.c8,I cx.bj,.lit (u aZ),ab b8,ab fm,.ro ((List.replicate m (0:UInt8)).map bm),ab true,I out.Next,I (max out.Max out.Next),aX,aX,ab false,ab true]) ?_ ?_ (h:=?_);(exact gX);(focus ((rw[cR];rfl))))|(refine pq 9 ?_;(and_intros <;> intros))|refine dS ?_|fail);refine gH (FK (id:=6) (f:=aV u) (L:=aC) (n:=n) (y:=⟨aZ,cx,rd,b8,fm,⟨List.replicate m 0,true,out.Next,max out.Max out.Next,[],[],false,true⟩⟩) (c:=[I aZ,I cx.bQ,.ro (cx.aD.map b5),I cx.c8,I cx.bj,.lit (u aZ),ab b8,ab fm,.ro ((List.replicate m (0:UInt8)).map bm),ab true,I out.Next,I (max out.Max out.Next),aX,aX,ab false,ab true]) rfl rfl LD) ?_;(repeat' first|(refine dL [0,6,7] (aY) (h:=?_))|(refine fi [0,6,7] (aY) (h:=?_))|(refine gd [0,6,7] (aY) (h:=?_))|(refine lT (r:=(aC.set n ⟨aZ,cx,rd,b8,fm,⟨List.replicate m 0,true,out.Next,max out.Max out.Next,[],[⟨0,out.Next - 1⟩],false,true⟩⟩).map (aV u)) ?_ ?_ (h:=?_);(exact gX);(exact B1))|(refine lU (r:=(aC.set n ⟨aZ,cx,rd,b8,fm,⟨List.replicate m 0,true,out.Next,max out.Max out.Next,[],[⟨0,out.Next - 1⟩],false,true⟩⟩).map (aV u)) ?_ ?_ (h:=?_);(exact gX);(exact B1))|refine lA fR fu ?_|(refine eF ?_;(and_intros <;> intros))|refine dS ?_|fail))
     all_goals first|exact ed|skip
    ·rw[ah t1] at ap;have aY:=wy u ⟨aA,space,bg,bc,bp,ids,bJ,opened,(aC.set n ⟨aZ,cx,rd,b8,fm,⟨List.replicate m 0,true,out.Next,max out.Max out.Next,[],[],false,true⟩⟩),bF,queue,last,bK,bS,code⟩ (oF cn out.Next dj) BY;unfold oF fE dw at ap;unfold oF a1 at aY;dsimp only at ap aY;generalize fK queue ⟨4,cn,out.Next,false,dj,[],[]⟩=T at *;obtain ⟨rP,p6⟩:=T;dsimp only at ap aY
     cases ap
     refine FH ?_ hH;have fR:n<((aC.set n ⟨aZ,cx,rd,b8,fm,⟨List.replicate m 0,true,out.Next,max out.Max out.Next,[],[],false,true⟩⟩).map (aV u)).length:=by rw[bY,e1];exact U
     have fu:=wz (f:=aV u) U ⟨aZ,cx,rd,b8,fm,⟨List.replicate m 0,true,out.Next,max out.Max out.Next,[],[],false,true⟩⟩;(try unfold a1 fE dw gJ dM);(try unfold a1 dw gJ dM);(try unfold a1 dM);(try unfold a1);(try dsimp only);refine aH Tryz.func132 ?_;refine yk ?_;(refine LC ?_;and_intros <;> intros)
     all_goals try (exfalso;omega)
     all_goals (refine gW ?_;refine gU [(14,6)] ?_;(repeat' first|refine lA cf cR ?_|(refine BZ (by_:=1) (r:=(List.replicate m (0:UInt8)).map bm) m ?_ ?_ ?_ ?_ ?_ (h:=?_);(focus omega);(focus omega);(exact B0);(focus omega);(focus omega))|refine rQ (hq:=fun _=>yl rfl rfl rfl rfl) (h:=?_)|(refine lT (r:=(aC.map (aV u)).set n [I aZ,I cx.bQ,.ro (cx.aD.map b5),I cx.c8,I cx.bj,.lit (u aZ),ab b8,ab fm,.ro ((List.replicate m (0:UInt8)).map bm),ab true,I out.Next,I (max out.Max out.Next),aX,aX,ab false,ab true]) ?_ ?_ (h:=?_);(exact gX);(focus ((rw[cR];rfl))))|(refine lU (r:=(aC.map (aV u)).set n [I aZ,I cx.bQ,.ro (cx.aD.map b5),I cx.c8,I cx.bj,.lit (u aZ),ab b8,ab fm,.ro ((List.replicate m (0:UInt8)).map bm),ab true,I out.Next,I (max out.Max out.Next),aX,aX,ab false,ab true]) ?_ ?_ (h:=?_);(exact gX);(focus ((rw[cR];rfl))))|(refine pq 9 ?_;(and_intros <;> intros))|refine dS ?_|fail);refine gH (FK (id:=6) (f:=aV u) (L:=aC) (n:=n) (y:=⟨aZ,cx,rd,b8,fm,⟨List.replicate m 0,true,out.Next,max out.Max out.Next,[],[],false,true⟩⟩) (c:=[I aZ,I cx.bQ,.ro (cx.aD.map b5),I cx.c8,I cx.bj,.lit (u aZ),ab b8,ab fm,.ro ((List.replicate m (0:UInt8)).map bm),ab true,I out.Next,I (max out.Max out.Next),aX,aX,ab false,ab true]) rfl rfl LD) ?_;(repeat' first|(refine dL [0,6,7] (aY) (h:=?_))|(refine fi [0,6,7] (aY) (h:=?_))|(refine gd [0,6,7] (aY) (h:=?_))|(refine lT (r:=(aC.set n ⟨aZ,cx,rd,b8,fm,⟨List.replicate m 0,true,out.Next,max out.Max out.Next,[],[⟨0,out.Next - 1⟩],false,true⟩⟩).map (aV u)) ?_ ?_ (h:=?_);(exact gX);(exact B1))|(refine lU (r:=(aC.set n ⟨aZ,cx,rd,b8,fm,⟨List.replicate m 0,true,out.Next,max out.Max out.Next,[],[⟨0,out.Next - 1⟩],false,true⟩⟩).map (aV u)) ?_ ?_ (h:=?_);(exact gX);(exact B1))|refine lA fR fu ?_|(refine eF ?_;(and_intros <;> intros))|refine dS ?_|fail))
     all_goals first|exact ed|skip
   ·rw[oE] at h8 ap;rw[al rfl] at ap
    cases ap
    rcases hH with⟨_,rfl⟩ | ⟨h,_⟩
    ·(try unfold a1 fE dw gJ dM);(try unfold a1 dw gJ dM);(try unfold a1 dM);(try unfold a1);(try dsimp only);refine aH Tryz.func132 ?_;refine yk ?_;(repeat' first|(refine dL [0,3,4] (au) (h:=?_))|(refine fi [0,3,4] (au) (h:=?_))|(refine gd [0,3,4] (au) (h:=?_))|refine bh h8 ?_|refine cb (hq:=j5 rfl rfl rfl rfl) (h:=?_)|refine cb (hq:=k6 rfl rfl rfl rfl) (h:=?_)|refine lA cf cR ?_|refine gU [] (h:=?_)|(refine eF ?_;(and_intros <;> intros))|refine dS ?_|fail)
     all_goals first|exact ed|skip
    ·exact absurd rfl h
  ·rw[ah U] at ap
   cases ap
   have au:=au _ (.inr (.inr ⟨rfl,U,rfl⟩));rcases hH with⟨_,rfl⟩ | ⟨h,_⟩
   ·(try unfold a1 fE dw gJ dM);(try unfold a1 dw gJ dM);(try unfold a1 dM);(try unfold a1);(try dsimp only);refine aH Tryz.func132 ?_;refine yk ?_;(refine wA ?_;and_intros <;> intros)
    all_goals first|exact ed|skip
   ·exact absurd rfl h
 ·rw[ah ai] at ap
  cases ap
  have au:=au _ (.inl ⟨ai,rfl⟩);rcases hH with⟨h,_⟩ | ⟨_,rfl⟩
  ·exact absurd h ai
  ·(try unfold a1 fE dw gJ dM);(try unfold a1 dw gJ dM);(try unfold a1 dM);(try unfold a1);(try dsimp only);refine aH Tryz.func132 ?_;refine yk ?_;(refine wA ?_;and_intros <;> intros)
   all_goals first|exact ed|skip
end
section
set_option maxRecDepth 100000
attribute [local irreducible] cE a6 bu GStep Fn cg bf cA
theorem SF (u:Int->Value) (c:aG) (f:bo) (ag:f.Kind=16) (C:aG) (e:Int) (ap:(B2 c (k7 c.eh f.aP).1,(k7 c.eh f.aP).2)=(C,e)) (H:List (Nat×Option aT)) (hH:(e=0/\H=[(0,some (.box 116 (a1 C (.own 3) (.own 4)))),(3,some (.row 134 16 (C.aq.map (aV u)))),(4,some (.row 111 7 (C.Queue.map aO)))])\/(e≠0/\H=[(0,some (.box 116 (a1 C (.own 3) (.own 4))))])) :
  cA Tryz.prog 133 [.ptr 0 0 0 0,.agg (aO f)] [(0,some (.box 116 (a1 c (.own 1) (.own 2)))),(1,some (.row 134 16 (c.aq.map (aV u)))),(2,some (.row 111 7 (c.Queue.map aO)))] 3 (I e) H 5:=by
 obtain ⟨cF,cn,cL,fin,dj,dI,dh⟩:=f;obtain ⟨aA,space,bg,bc,bp,ids,bJ,opened,aC,bF,queue,last,bK,bS,code⟩:=c;unfold a1;dsimp only at *;subst ag;have fS:=LF bp cL;unfold B2 at ap;generalize k7 bp cL=G at *;obtain ⟨mg,ge⟩:=G;dsimp only at *
 cases ap
 rcases hH with⟨ai,rfl⟩ | ⟨ai,rfl⟩
 ·refine aH Tryz.func133 ?_;refine LG ?_;(repeat' first|refine bh fS ?_|refine gU [] (h:=?_)|(refine ay ?_;(and_intros <;> intros))|fail)
  all_goals first|exact ed|skip
 ·refine aH Tryz.func133 ?_;refine LG ?_;(repeat' first|refine bh fS ?_|refine gU [] (h:=?_)|(refine ay ?_;(and_intros <;> intros))|fail)
  all_goals first|exact ed|skip
theorem SG (u:Int->Value) (c:aG) (f:bo) (ag:f.Kind=18) (C:aG) (e:Int) (ap:(if c.Client=true then ym c (max c.gQ f.aP) else c,(0:Int))=(C,e)) (H:List (Nat×Option aT)) (hH:(e=0/\H=[(0,some (.box 116 (a1 C (.own 3) (.own 4)))),(3,some (.row 134 16 (C.aq.map (aV u)))),(4,some (.row 111 7 (C.Queue.map aO)))])\/(e≠0/\H=[(0,some (.box 116 (a1 C (.own 3) (.own 4))))])) :
  cA Tryz.prog 133 [.ptr 0 0 0 0,.agg (aO f)] [(0,some (.box 116 (a1 c (.own 1) (.own 2)))),(1,some (.row 134 16 (c.aq.map (aV u)))),(2,some (.row 111 7 (c.Queue.map aO)))] 3 (I e) H 5:=by
 obtain ⟨cF,cn,cL,fin,dj,dI,dh⟩:=f;obtain ⟨aA,space,bg,bc,bp,ids,bJ,opened,aC,bF,queue,last,bK,bS,code⟩:=c;unfold a1;dsimp only at *;subst ag;rcases hH with⟨ai,rfl⟩ | ⟨ai,rfl⟩
 ·cases aA
  ·rw[ah iS] at ap
   cases ap
   refine aH Tryz.func133 ?_;refine gH ((jg 1 (bq:=⟨[(0,.ptr 0 0 0 0),(1,.agg [I 18,I cn,I cL,ab fin,I dj,.ro (dI.map aB),.ro (dh.map bm)])],[(0,some (.box 116 [ab false,I space.Next,.ro (space.aR.map bC),I space.c9,.ro (space.cD.map aB),.ro (space.bI.map encI),I bg.bj,I bg.dy,I bg.c0,I bg.Since,I bc.Max,I bc.bG,I bp.Max,I bp.bG,I ids,I bJ,I opened,.own 3,ab bF,.own 2,I last,I bK,ab bS,I code])),(3,some (.row 134 16 (aC.map (aV u)))),(2,some (.row 111 7 (queue.map aO)))],4,Tryz.f133.ntmps⟩)).trans (jg 2 (bq:=⟨[(0,.ptr 0 0 0 0),(1,.agg [I 18,I cn,I cL,ab fin,I dj,.ro (dI.map aB),.ro (dh.map bm)])],[(0,some (.box 116 [ab false,I space.Next,.ro (space.aR.map bC),I space.c9,.ro (space.cD.map aB),.ro (space.bI.map encI),I bg.bj,I bg.dy,I bg.c0,I bg.Since,I bc.Max,I bc.bG,I bp.Max,I bp.bG,I ids,I bJ,I opened,.own 3,ab bF,.own 4,I last,I bK,ab bS,I code])),(3,some (.row 134 16 (aC.map (aV u)))),(4,some (.row 111 7 (queue.map aO)))],5,Tryz.f133.ntmps⟩))) ?_;(try refine ay ?_;and_intros <;> intros)
   all_goals first|exact ed|skip
  ·rw[al rfl] at ap;unfold ym at ap;dsimp only at ap
   cases ap
   refine aH Tryz.func133 ?_;refine gH ((jg 1 (bq:=⟨[(0,.ptr 0 0 0 0),(1,.agg [I 18,I cn,I cL,ab fin,I dj,.ro (dI.map aB),.ro (dh.map bm)])],[(0,some (.box 116 [ab true,I space.Next,.ro (space.aR.map bC),I space.c9,.ro (space.cD.map aB),.ro (space.bI.map encI),I bg.bj,I bg.dy,I bg.c0,I bg.Since,I bc.Max,I bc.bG,I bp.Max,I bp.bG,I ids,I bJ,I opened,.own 3,ab bF,.own 2,I last,I bK,ab bS,I code])),(3,some (.row 134 16 (aC.map (aV u)))),(2,some (.row 111 7 (queue.map aO)))],4,Tryz.f133.ntmps⟩)).trans (jg 2 (bq:=⟨[(0,.ptr 0 0 0 0),(1,.agg [I 18,I cn,I cL,ab fin,I dj,.ro (dI.map aB),.ro (dh.map bm)])],[(0,some (.box 116 [ab true,I space.Next,.ro (space.aR.map bC),I space.c9,.ro (space.cD.map aB),.ro (space.bI.map encI),I bg.bj,I bg.dy,I bg.c0,I bg.Since,I bc.Max,I bc.bG,I bp.Max,I bp.bG,I ids,I bJ,I opened,.own 3,ab bF,.own 4,I last,I bK,ab bS,I code])),(3,some (.row 134 16 (aC.map (aV u)))),(4,some (.row 111 7 (queue.map aO)))],5,Tryz.f133.ntmps⟩))) ?_;(repeat' first|refine rQ (hq:=fun _=>yl rfl rfl rfl rfl) (h:=?_)|(refine eF ?_;(and_intros <;> intros))|refine dS ?_|fail)
   all_goals first|exact ed|skip
 ·exact absurd (by cases ap;rfl) ai
theorem SH (u:Int->Value) (c:aG) (f:bo) (ad:c3 c) (ao:cK B c) (an:B<=16777216) (hf:dx f) (hu:∀ i,c.cN<=i->u i = .slice none 0 0) (ag:f.Kind≠16/\f.Kind≠18) (C:aG) (e:Int) (ap:iU p7 c f=(C,e)) (H:List (Nat×Option aT)) (hH:(e=0/\H=[(0,some (.box 116 (a1 C (.own 3) (.own 4)))),(3,some (.row 134 16 (C.aq.map (aV u)))),(4,some (.row 111 7 (C.Queue.map aO)))])\/(e≠0/\H=[(0,some (.box 116 (a1 C (.own 3) (.own 4))))])) :
  cA Tryz.prog 133 [.ptr 0 0 0 0,.agg (aO f)] [(0,some (.box 116 (a1 c (.own 1) (.own 2)))),(1,some (.row 134 16 (c.aq.map (aV u)))),(2,some (.row 111 7 (c.Queue.map aO)))] 3 (I e) H 5:=by
 have uD:=q1 (id:=f.Id) ad ao;have au:=wx u c f.Id ao.eg ad.op.1 (by have:=ad.jf;omega) hu;unfold iU at ap;generalize eV c f.Id=K at *;obtain ⟨dH,aI⟩:=K;have au:=au dH aI rfl;dsimp only at *;obtain ⟨mD,k5,q2,uE⟩:=uD;have pn:=hf.2.2.1;have FI:=hf.2.2.2.1;clear ad ao;obtain ⟨cF,cn,cL,fin,dj,dI,dh⟩:=f;unfold a1 at au ⊢;dsimp only at *;by_cases ai:aI=0
 ·subst ai;rw[al rfl] at ap;by_cases U:b7 dH.aq cn<dH.aq.length
  ·rw[al U] at ap;have au:=au _ (.inr (.inl ⟨rfl,U,rfl⟩));have dN:=k5.gK _ (cc U);have cR:=gV (aV u) U;have cf:b7 dH.aq cn<(dH.aq.map (aV u)).length:=by rw[bY];exact U
   generalize b7 dH.aq cn=n at *;have FJ:=mD.dv;have LB:=mD.h7;have BY:=k5.iK;have ly:=k5.eg;clear mD k5 uE q2;obtain ⟨aA,space,bg,bc,bp,ids,bJ,opened,aC,bF,queue,last,bK,bS,code⟩:=dH;generalize j4:aC.getD n default=x at *;obtain ⟨aZ,cx,rd,b8,fm,out⟩:=x;unfold lz at dN;dsimp only at *;have cR:bb (aC.map (aV u)) n=[I aZ,I cx.bQ,.ro ((cx.aD).map b5),I (cx.c8),I (cx.bj),.lit (u aZ),ab b8,ab fm,.ro ((out.Data).map bm),ab out.Fin,I out.Next,I (out.Max),.ro ((out.cO).map aB),.ro ((out.cI).map aB),ab out.fo,ab out.Over]:=cR;have fS:=SI out cL (bT.uF _ dN.2.2.2.2.1) pn;unfold p7 cV at ap;dsimp only at ap;rw[j4] at ap;dsimp only at ap;generalize mE out cL=G at *;obtain ⟨S,ge⟩:=G;dsimp only at *;by_cases t1:ge=0
   ·subst t1;rw[al rfl] at ap
    cases ap
    rcases hH with⟨_,rfl⟩ | ⟨h,_⟩
    ·(try unfold a1 fE dw gJ dM);(try unfold a1 dw gJ dM);(try unfold a1 dM);(try unfold a1);(try dsimp only);refine aH Tryz.func133 ?_;refine B3 ?_;(refine LH ?_;and_intros <;> intros)
     all_goals try (exfalso;omega)
     all_goals ((try refine gW ?_);refine gU [(13,6)] ?_;(repeat' first|refine bh fS ?_|refine lA cf cR ?_|(refine lT (r:=(aC.set n ⟨aZ,cx,rd,b8,fm,S⟩).map (aV u)) ?_ ?_ (h:=?_);(exact gX);(exact B4))|(refine lU (r:=(aC.set n ⟨aZ,cx,rd,b8,fm,S⟩).map (aV u)) ?_ ?_ (h:=?_);(exact gX);(exact B4))|(refine eF ?_;(and_intros <;> intros))|refine dS ?_|fail))
     all_goals first|exact ed|skip
    ·exact absurd rfl h
   ·rw[ah t1] at ap
    cases ap
    rcases hH with⟨h,_⟩ | ⟨_,rfl⟩
    ·exact absurd h t1
    ·(try unfold a1 fE dw gJ dM);(try unfold a1 dw gJ dM);(try unfold a1 dM);(try unfold a1);(try dsimp only);refine aH Tryz.func133 ?_;refine B3 ?_;(refine LH ?_;and_intros <;> intros)
     all_goals try (exfalso;omega)
     all_goals ((try refine gW ?_);refine gU [(13,6)] ?_;(repeat' first|refine bh fS ?_|refine lA cf cR ?_|(refine lT (r:=(aC.set n ⟨aZ,cx,rd,b8,fm,S⟩).map (aV u)) ?_ ?_ (h:=?_);(exact gX);(exact B4))|(refine lU (r:=(aC.set n ⟨aZ,cx,rd,b8,fm,S⟩).map (aV u)) ?_ ?_ (h:=?_);(exact gX);(exact B4))|(refine eF ?_;(and_intros <;> intros))|refine dS ?_|fail))
     all_goals first|exact ed|skip
  ·rw[ah U] at ap
   cases ap
   have au:=au _ (.inr (.inr ⟨rfl,U,rfl⟩));rcases hH with⟨_,rfl⟩ | ⟨h,_⟩
   ·(try unfold a1 fE dw gJ dM);(try unfold a1 dw gJ dM);(try unfold a1 dM);(try unfold a1);(try dsimp only);refine aH Tryz.func133 ?_;refine B3 ?_;(refine wA ?_;and_intros <;> intros)
    all_goals first|exact ed|skip
   ·exact absurd rfl h
 ·rw[ah ai] at ap
  cases ap
  have au:=au _ (.inl ⟨ai,rfl⟩);rcases hH with⟨h,_⟩ | ⟨_,rfl⟩
  ·exact absurd h ai
  ·(try unfold a1 fE dw gJ dM);(try unfold a1 dw gJ dM);(try unfold a1 dM);(try unfold a1);(try dsimp only);refine aH Tryz.func133 ?_;refine B3 ?_;(refine wA ?_;and_intros <;> intros)
   all_goals first|exact ed|skip
end
end Go.Proofs.YtendheafcbickaaGreat
