
import Derived.Test.YtendheafcbickaaGreatCHrC
set_option linter.unusedVariables false
set_option linter.unusedSimpArgs false
set_option maxHeartbeats 16000000
namespace Go.Proofs.YtendheafcbickaaGreat
set_option maxRecDepth 100000
attribute [local irreducible] cE a6 bu GStep Fn cg bf cA
theorem Oa (s:ey) (l:List aK):(∀ p ∈ (fr s l).2.1,p ∈ s.aR) /\ ∀ p ∈ (fr s l).2.2.1,p ∈ s.aR:=by
 unfold fr;split
 ·exact⟨fun p ar=>(by cases ar),fun p ar=>(by cases ar)⟩
 ·split
  ·exact⟨fun p ar=>(by cases ar),fun p ar=>(by cases ar)⟩
  ·split
   ·exact⟨fun p ar=>(by cases ar),fun p ar=>(by cases ar)⟩
   ·refine ⟨fun p ar=>(List.mem_filter.1 ar).1,fun p ar=>?_⟩;have:=(List.mem_filter.1 ar).1;exact(List.mem_filter.1 this).1
theorem H4 (s:ey) (l:List aK):(fr s l).2.1.length<=s.aR.length/\(fr s l).2.2.1.length<=s.aR.length:=by
 unfold fr;split
 ·exact⟨cm _,cm _⟩
 ·split
  ·exact⟨cm _,cm _⟩
  ·split
   ·exact⟨cm _,cm _⟩
   ·refine ⟨oA _ _,?_⟩;exact qJ (oA _ _) (oA _ _)
theorem Ds (c:aG) (x:bo) (h:¬ (x.Kind=8/\b7 c.aq x.Id<c.aq.length)):ny c x=(c,0):=by
 unfold ny;rw[ah h]
theorem Ob (c:aG) (x:bo) (k:x.Kind=8) (h:b7 c.aq x.Id<c.aq.length):ny c x=if (lF (c.aq.getD (b7 c.aq x.Id) default).Out x.aP x.Data.length x.Fin).2=0 then(dw c (b7 c.aq x.Id) { c.aq.getD (b7 c.aq x.Id) default with Out:=(lF (c.aq.getD (b7 c.aq x.Id) default).Out x.aP x.Data.length x.Fin).1 },0) else(c,(lF (c.aq.getD (b7 c.aq x.Id) default).Out x.aP x.Data.length x.Fin).2):=by
 unfold ny mI;rw[al ⟨k,h⟩]
def zD (l:List cS):Prop:=∀ y ∈ l,bT.hg y.Out/\(0<=y.Out.Next/\y.Out.Next<=y.Out.Data.length/\y.Out.Data.length<=600)
theorem Oc {s:ee} {off n:Int} {fin:Bool} (hw:bT.hg s) (ai:(lF s off n fin).2=0):bT.hg (lF s off n fin).1/\(lF s off n fin).1.Next=s.Next/\(lF s off n fin).1.Data=s.Data:=by
 unfold lF at *;by_cases fz:kd s off n fin=0
 ·obtain ⟨bP,ar⟩:=zE fz;obtain ⟨aL,aS,bi,cq⟩:=xt bP ar;rw[ah (by omega)];obtain ⟨c4,du,w3,e9,fa,gy,hL⟩:=hw;have hh:=bP.1.1.1;unfold oh at hh;have f1:=zF aL ((rp aL).1 bP.1.1.2) (by omega);have f2:=zF aS ((rp aS).1 bP.1.2) (by omega);refine ⟨?_,rfl,rfl⟩;unfold Dt;refine ⟨c4,du,w3,?_,?_,?_,?_⟩
  ·dsimp only;split
   ·rename_i hn0;have:=xm (cq hn0) aL;omega
   ·exact e9
  ·dsimp only;split
   ·rename_i hn0;intro y aj;have av:=(iC (HR (cq hn0) aL) y aj).1;unfold b9 at av;unfold bT.fB aE;omega
   ·exact fa
  ·dsimp only;split
   ·rename_i hn0;obtain ⟨J,_,az⟩:=vn [⟨off,off+n - 1⟩] aS (fun x U=>by rw[iX] at U;subst U;exact cq hn0);simp only[List.foldl_cons,List.foldl_nil,eb,fg] at az;omega
   ·exact gy
  ·dsimp only;split
   ·rename_i hn0;obtain ⟨J,_,az⟩:=vn [⟨off,off+n - 1⟩] aS (fun x U=>by rw[iX] at U;subst U;exact cq hn0);simp only[List.foldl_cons,List.foldl_nil] at J;intro y aj;have av:=(iC J y aj).1;unfold b9 at av;unfold bT.fB aE;omega
   ·exact hL
 ·rw[al fz] at ai;exact absurd ai fz
theorem VH {l:List cS} {k:Nat} {s:ee} (h:zD l) (ag:k<l.length) (aw:bT.hg s/\s.Next=(l.getD k default).Out.Next/\s.Data=(l.getD k default).Out.Data):zD (l.set k { l.getD k default with Out:=s }):=fun y aj=>by
 rcases vo aj with aj|aj
 ·exact h y aj
 ·subst aj;have:=h _ (cc ag);obtain ⟨s1,s2,Du⟩:=aw;exact⟨s1,by dsimp only;rw[s2,Du];exact this.2⟩
theorem Ui {B:Nat} (u:Int->Value) (c:aG) (f:bo) (now:Int) (ad:c3 c) (ao:cK B c) (an:B<=16777216) (hf:dx f)
  (C:aG) (e:Int) (ap:qt c f now=(C,e)) (H:List (Nat×Option aT)) (hH:(e=0/\H=[(0,some (.box 116 (a1 C (.own 3) (.own 4)))),(3,some (.row 134 16 (C.aq.map (aV u)))),(4,some (.row 111 7 (C.Queue.map aO)))])\/(e≠0/\H=[(0,some (.box 116 (a1 C (.own 3) (.own 4))))])) :
  cA Tryz.prog 129 [.ptr 0 0 0 0,.agg (aO f),I now] [(0,some (.box 116 (a1 c (.own 1) (.own 2)))),(1,some (.row 134 16 (c.aq.map (aV u)))),(2,some (.row 111 7 (c.Queue.map aO)))] 3 (I e) H 5:=by
 have fG:zD c.aq:=fun y aj=>⟨(ao.gK y aj).2.2.2.2.1,(ao.gK y aj).2.2.2.2.2.1⟩
 have hK:=ao.eg;have hq:=ao.iK;have H5:=bT.zj _ ad.sp;have dC:=T4 c.aQ f.ec H5 hf.2.2.2.2.1;have VI:=ao.mh an;obtain ⟨VJ,bL⟩:=Oa c.aQ f.ec;have qy:=H5.2.2.1;have jz:c.aQ.aR.length<=1048576:=by have:=ad.sp.2.1;omega
 have xu:=H4 c.aQ f.ec;clear ad ao H5;unfold qt at ap;generalize fr c.aQ f.ec=A at *;obtain ⟨gD,heard,lost,H6⟩:=A;unfold r7 at dC;obtain ⟨cF,cn,cL,fin,dj,dI,dh⟩:=f;obtain ⟨aA,space,bg,bc,bp,ids,bJ,opened,aC,bF,queue,last,bK,bS,code⟩:=c;unfold a1 iy at *;dsimp only at *;by_cases ai:H6=0
 ·subst ai;rw[al rfl] at ap;generalize zG:kQ ⟨aA,gD,bg,bc,bp,ids,bJ,opened,aC,bF,queue,last,bK,bS,code⟩ heard=H7 at *;obtain ⟨dH,aI⟩:=H7;dsimp only at *;refine aH Tryz.func129 ?_;refine Od ?_;(refine bH dC ?_;and_intros <;> intros)
  all_goals try (exfalso;omega)
  refine cv (fun x:Nat×gA×List cS=>⟨[(0,.ptr 0 0 0 0),(2,I now),(9,.ro (lost.map bC)),(10,I 0),(37,.ro (heard.map bC)),(38,I heard.length),(39,I x.1)],[(0,some (.box 116 [ab aA,I gD.Next,.ro (gD.aR.map bC),I gD.c9,.ro (gD.cD.map aB),.ro (gD.bI.map encI),I x.2.1.bj,I x.2.1.dy,I x.2.1.c0,I x.2.1.Since,I bc.Max,I bc.bG,I bp.Max,I bp.bG,I ids,I bJ,I opened,.own 3,ab bF,.own 4,I last,I bK,ab bS,I code])),(3,some (.row 134 16 (x.2.2.map (aV u)))),(4,some (.row 111 7 (queue.map aO)))],5,Tryz.f129.ntmps⟩)
   (fun x=>x.1<=heard.length/\kQ ⟨aA,gD,x.2.1,bc,bp,ids,bJ,opened,x.2.2,bF,queue,last,bK,bS,code⟩ (heard.drop x.1)=(dH,aI)/\zD x.2.2/\x.2.2.length=aC.length/\(∀ y ∈ x.2.2,∃ z ∈ aC,y.In=z.In/\y.Read=z.Read/\y.Id=z.Id)) (fun x=>heard.length - x.1) (0,bg,aC) ⟨cm _,zG,fG,rfl,fun y aj=>⟨y,aj,rfl,rfl,rfl⟩⟩ (by first|(exact ba)|skip) ?_
  clear zG fG dC;rintro ⟨k,p,a8⟩ ⟨ag,hm,fG,vp,dc⟩;dsimp only at *;by_cases au:k<heard.length
  ·rw[drop_cons au] at hm;unfold kQ at hm;have pE:=VJ _ (cc au);have oL:=qy _ pE;have iN:=Ug p (min (heard.getD k default).hG p.c0) (heard.getD k default).Time;unfold r9 kL at hm;dsimp only at hm;generalize pF p (min (heard.getD k default).hG p.c0) (heard.getD k default).Time=uN at *;obtain ⟨db,uO⟩:=uN;dsimp only at *;have lB:(heard.getD k default).Frames.length<=1000000000000000:=by have:=oL.2.2.2.1;omega
   have uP:=oL.2.2.2.2;generalize qe:kv ⟨aA,gD,db,bc,bp,ids,bJ,opened,a8,bF,queue,last,bK,bS,code⟩ (heard.getD k default).Frames=uQ at *;obtain ⟨jk,a7⟩:=uQ;(refine bH iN ?_;and_intros <;> intros);refine cv (fun x:Nat×List cS=>⟨[(0,.ptr 0 0 0 0),(2,I now),(9,.ro (lost.map bC)),(10,I 0),(37,.ro (heard.map bC)),(38,I heard.length),(39,I k),(68,.ro ((heard.getD k default).Frames.map aO)),(69,I (heard.getD k default).Frames.length),(70,I x.1)],[(0,some (.box 116 [ab aA,I gD.Next,.ro (gD.aR.map bC),I gD.c9,.ro (gD.cD.map aB),.ro (gD.bI.map encI),I db.bj,I db.dy,I db.c0,I db.Since,I bc.Max,I bc.bG,I bp.Max,I bp.bG,I ids,I bJ,I opened,.own 3,ab bF,.own 4,I last,I bK,ab bS,I code])),(3,some (.row 134 16 (x.2.map (aV u)))),(4,some (.row 111 7 (queue.map aO)))],5,Tryz.f129.ntmps⟩)
    (fun x=>x.1<=(heard.getD k default).Frames.length/\kv ⟨aA,gD,db,bc,bp,ids,bJ,opened,x.2,bF,queue,last,bK,bS,code⟩ ((heard.getD k default).Frames.drop x.1)=(jk,a7)/\zD x.2/\x.2.length=aC.length/\(∀ y ∈ x.2,∃ z ∈ aC,y.In=z.In/\y.Read=z.Read/\y.Id=z.Id)) (fun x=>(heard.getD k default).Frames.length - x.1) (0,a8) ⟨cm _,qe,fG,vp,dc⟩ fP ?_
   clear qe fG vp iN dc;rintro ⟨j,a8⟩ ⟨ad,kz,fG,vp,dc⟩;dsimp only at *;by_cases fh:j<(heard.getD k default).Frames.length
   ·rw[drop_cons fh] at kz;unfold kv at kz;have gw:=uP _ (cc fh);generalize (heard.getD k default).Frames=cY at *;have c1:=yt u ⟨aA,gD,db,bc,bp,ids,bJ,opened,a8,bF,queue,last,bK,bS,code⟩ (cY.getD j default).Id b4;have hle:=q7 a8 (cY.getD j default).Id;dsimp only at kz c1;unfold a1 s7 at c1;dsimp only at c1;by_cases U:b7 a8 (cY.getD j default).Id<a8.length
    ·rw[al U] at c1;have cf:b7 a8 (cY.getD j default).Id<(a8.map (aV u)).length:=by rw[bY];exact U
     have cR:=gV (aV u) U;by_cases ib:(cY.getD j default).Kind=8
     ·rw[Ob _ _ ib U] at kz;dsimp only at kz;have nk:=fG _ (cc U);have Ga:=bT.uF _ nk.1;have nm:=VK (a8.getD (b7 a8 (cY.getD j default).Id) default).Out (cY.getD j default).aP (cY.getD j default).Data.length (cY.getD j default).Fin Ga gw.2.2.1 (by have:=gw.2.2.2.2.2.2;unfold aE;omega);have Gb:=fun h=>Oc (s:=(a8.getD (b7 a8 (cY.getD j default).Id) default).Out) (off:=(cY.getD j default).aP) (n:=(cY.getD j default).Data.length) (fin:=(cY.getD j default).Fin) nk.1 h
      have mi:=fun s h=>VH (s:=s) fG U h
      have Dv:∀ s,∀ y ∈ a8.set (b7 a8 (cY.getD j default).Id) { a8.getD (b7 a8 (cY.getD j default).Id) default with Out:=s },∃ z ∈ aC,y.In=z.In/\y.Read=z.Read/\y.Id=z.Id:=fun s y aj=>by
       rcases vo aj with aj|rfl
       ·exact dc y aj
       ·obtain ⟨z,aU,q⟩:=dc _ (cc U);exact⟨z,aU,q⟩
      generalize b7 a8 (cY.getD j default).Id=n at *;generalize lF (a8.getD n default).Out (cY.getD j default).aP (cY.getD j default).Data.length (cY.getD j default).Fin=rU at *;obtain ⟨S,le⟩:=rU;unfold pv at nm;dsimp only at *;have rV:(a8.map (aV u)).set n (setAt 8 (fc S) (bb (a8.map (aV u)) n))=(a8.set n { a8.getD n default with Out:=S }).map (aV u):=by
       rw[cR,q3];rfl
      by_cases kM:le=0
      ·subst kM;simp only[↓reduceIte] at kz;unfold dw at kz;(try dsimp only at kz);(repeat' first|(refine dL [0,3,4] (c1) (h:=?_))|(refine fi [0,3,4] (c1) (h:=?_))|(refine gd [0,3,4] (c1) (h:=?_))|refine cb (hq:=yx rfl rfl rfl rfl) (h:=?_)|(refine pq 14 ?_;(and_intros <;> intros))|refine dS ?_|fail)
       all_goals try (exfalso;omega)
       all_goals first
        | (refine gW ?_;refine gU [(18,3)] ?_;(repeat' first|refine bh nm ?_|refine da (hq:=fun N=>ep rfl rfl rfl rfl (pw rfl cf rfl cR) (bM rfl)) (h:=?_)|(refine lT (r:=(a8.set n { a8.getD n default with Out:=S }).map (aV u)) ?_ ?_ (h:=?_);(exact gX);(focus ((exact rV))))|(refine lU (r:=(a8.set n { a8.getD n default with Out:=S }).map (aV u)) ?_ ?_ (h:=?_);(exact gX);(focus ((exact rV))))|(refine eF ?_;(and_intros <;> intros))|refine dS ?_|fail))
        | skip
       all_goals first
        | (exact⟨(j+1,a8.set n { a8.getD n default with Out:=S }),b4,(by exact⟨fh,kz,mi S (Gb rfl),(by rw[e1];exact vp),Dv S⟩),ba⟩)
        | (exfalso;omega)
        | skip
      ·rw[ah kM] at kz;dsimp only at kz;rw[ah kM] at kz
       cases kz
       rw[ah kM] at hm
       cases hm
       rw[ah kM] at ap
       cases ap
       rcases hH with⟨ai,_⟩ | ⟨_,rfl⟩
       ·exact absurd ai kM
       ·(repeat' first|(refine dL [0,3,4] (c1) (h:=?_))|(refine fi [0,3,4] (c1) (h:=?_))|(refine gd [0,3,4] (c1) (h:=?_))|refine cb (hq:=yx rfl rfl rfl rfl) (h:=?_)|(refine pq 14 ?_;(and_intros <;> intros))|refine dS ?_|fail)
        all_goals try (exfalso;omega)
        all_goals first
         | (refine gW ?_;refine gU [(18,3)] ?_;(repeat' first|refine bh nm ?_|refine da (hq:=fun N=>ep rfl rfl rfl rfl (pw rfl cf rfl cR) (bM rfl)) (h:=?_)|(refine lT (r:=(a8.set n { a8.getD n default with Out:=S }).map (aV u)) ?_ ?_ (h:=?_);(exact gX);(focus ((exact rV))))|(refine lU (r:=(a8.set n { a8.getD n default with Out:=S }).map (aV u)) ?_ ?_ (h:=?_);(exact gX);(focus ((exact rV))))|(refine eF ?_;(and_intros <;> intros))|refine dS ?_|fail))
         | skip
        all_goals first|exact ed|skip
     ·rw[Ds _ _ (fun h=>ib h.1)] at kz;simp only[↓reduceIte] at kz;(repeat' first|(refine dL [0,3,4] (c1) (h:=?_))|(refine fi [0,3,4] (c1) (h:=?_))|(refine gd [0,3,4] (c1) (h:=?_))|refine cb (hq:=yx rfl rfl rfl rfl) (h:=?_)|(refine eF ?_;(and_intros <;> intros))|refine dS ?_|fail)
      all_goals first
       | (exact⟨(j+1,a8),b4,⟨fh,kz,fG,vp,dc⟩,ba⟩)
       | (exfalso;omega)
       | skip
    ·rw[ah U] at c1;rw[Ds _ _ (fun h=>U h.2)] at kz;simp only[↓reduceIte] at kz;(repeat' first|(refine dL [0,3,4] (c1) (h:=?_))|(refine fi [0,3,4] (c1) (h:=?_))|(refine gd [0,3,4] (c1) (h:=?_))|refine cb (hq:=L5 rfl rfl rfl rfl) (h:=?_)|(refine eF ?_;(and_intros <;> intros))|refine dS ?_|fail)
     all_goals first
      | (exact⟨(j+1,a8),b4,⟨fh,kz,fG,vp,dc⟩,ba⟩)
      | (exfalso;omega)
      | skip
   ·have nR:j=(heard.getD k default).Frames.length:=by omega
    subst nR;rw[iJ] at kz;unfold kv at kz
    cases kz
    rw[al rfl] at hm;(try refine ay ?_;and_intros <;> intros)
    all_goals first
     | (exact⟨(k+1,db,a8),b4,⟨au,hm,fG,vp,dc⟩,ba⟩)
     | skip
  ·have ca:k=heard.length:=by omega
   subst ca;rw[iJ] at hm;unfold kQ at hm
   cases hm
   rw[al rfl] at ap;(try dsimp only at ap);have dJ:mh a8:=fun y aj=>by
    obtain ⟨z,aU,GN,z2,z3⟩:=dc y aj;have ln:=VI z aU;exact⟨by rw[z3];exact ln.1,by rw[GN];exact ln.2.1,by rw[z2];exact ln.2.2.1,(fG y aj).1⟩
   have iz:=Te u ⟨aA,gD,p,bc,bp,ids,bJ,opened,a8,bF,queue,last,bK,bS,code⟩ lost now dJ b4 hq (by omega) (fun y aj=>qy y (bL y aj)) C e ap;rcases hH with⟨rfl,rfl⟩ | ⟨he,rfl⟩
   ·have iz:=iz _ (.inl ⟨rfl,rfl⟩);unfold a1 at iz;dsimp only at iz;(repeat' first|(refine dL [0,3,4] (iz) (h:=?_))|(refine fi [0,3,4] (iz) (h:=?_))|(refine gd [0,3,4] (iz) (h:=?_))|(refine ay ?_;(and_intros <;> intros))|fail)
    all_goals first|exact ed|skip
   ·have iz:=iz _ (.inr ⟨he,rfl⟩);unfold a1 at iz;dsimp only at iz;(repeat' first|(refine dL [0,3,4] (iz) (h:=?_))|(refine fi [0,3,4] (iz) (h:=?_))|(refine gd [0,3,4] (iz) (h:=?_))|(refine ay ?_;(and_intros <;> intros))|fail)
    all_goals first|exact ed|skip
 ·rw[ah ai] at ap
  cases ap
  rcases hH with⟨h,_⟩ | ⟨_,rfl⟩
  ·exact absurd h ai
  ·refine aH Tryz.func129 ?_;refine Od ?_;(refine bH dC ?_;and_intros <;> intros)
   all_goals first|exact ed|skip
end Go.Proofs.YtendheafcbickaaGreat
