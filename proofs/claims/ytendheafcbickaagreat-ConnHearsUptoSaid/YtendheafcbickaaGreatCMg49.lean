/-
  SEVERAL TEXTS IN ONE: each with its own comment.
-/
import Derived.Test.YtendheafcbickaaGreatCMg46
import Derived.Test.YtendheafcbickaaGreatCHxG
set_option linter.unusedVariables false
set_option linter.unusedSimpArgs false
set_option maxHeartbeats 16000000
namespace Go.Proofs.YtendheafcbickaaGreat
section
set_option maxRecDepth 100000
attribute [local irreducible] cE a6 bu GStep Fn cg bf cA
theorem B7 (c:aG) (id:Int) (ao:c.aq.length<=4) (ae:0<=c.cN) (av:c.gR<=4611686018427387903) (C:aG) (e:Int) (ap:eV c id=(C,e)) (i:Int) (hi:i=if e=0 then(if b7 C.aq id<C.aq.length then(b7 C.aq id:Int) else -1) else -1) :
  Fn Tryz.prog 149 [.agg (cj c),I id] (.bN [.agg (cj C),I i,I e]):=by
 obtain ⟨aA,space,bg,bc,bp,ids,bJ,opened,aC,bF,queue,last,bK,bS,code⟩:=c;unfold eV at ap;dsimp only at *
 cases aA
 ·rw[ah iS] at ap;by_cases oH:bJ<=id
  ·rw[al oH] at ap
   cases ap
   rw[ah (by decide)] at hi;subst hi;refine aH Tryz.func149 ?_;(try refine ay ?_;and_intros <;> intros)
   all_goals (try dsimp only at *)
   all_goals first|exact dA|skip
  ·rw[ah oH] at ap;have hid:opened<=id->id<4611686018427387903:=fun _=>by omega
   refine aH Tryz.func149 ?_;(try refine ay ?_;and_intros <;> intros)
   all_goals (try dsimp only at *)
   all_goals try (exfalso;omega)
   refine cv (fun x:List cS×Int=>⟨[(1,I id),(2,.ptr 0 0 0 0),(4,.ptr 1 0 0 0)],[(0,some (.box 51 [ab false,I space.Next,.ro (space.aR.map bC),I space.c9,.ro (space.cD.map aB),.ro (space.bI.map encI),I bg.bj,I bg.dy,I bg.c0,I bg.Since,I bc.Max,I bc.bG,I bp.Max,I bp.bG,I ids,I bJ,I x.2,.ro (x.1.map eo),ab bF,.ro (queue.map aO),I last,I bK,ab bS,I code])),(1,some (.box 51 [ab false,I 0,aX,I 0,aX,aX,I 0,I 0,I 0,I 0,I 0,I 0,I 0,I 0,I 0,I 0,I 0,aX,ab false,aX,I 0,I 0,ab false,I 0]))],2,Tryz.f149.ntmps⟩)
    (fun x=>x.1.length<=4/\0<=x.2/\(x.2<=id->id<4611686018427387903)/\lh (4 - x.1.length) ⟨false,space,bg,bc,bp,ids,bJ,x.2,x.1,bF,queue,last,bK,bS,code⟩ id=(C,e)) (fun x=>4 - x.1.length) (aC,opened) ⟨ao,ae,hid,ap⟩ fP ?_
   clear ap hid;rintro ⟨a8,op⟩ ⟨ao,ae,hid,ap⟩;dsimp only at *;by_cases fb:op<=id
   ·have hid:=hid fb;by_cases bk:a8.length=4
    ·rw[show 4 - a8.length=0 by omega,vk,al fb] at ap
     cases ap
     rw[ah (by decide)] at hi;subst hi;(try refine ay ?_;and_intros <;> intros)
     all_goals (try dsimp only at *)
     all_goals first|exact dA|skip
    ·obtain ⟨m,hm⟩:∃ m,4 - a8.length=m+1:=⟨3 - a8.length,by omega⟩;rw[hm,vl,al fb] at ap;have oi:=N3 ⟨false,space,bg,bc,bp,ids,bJ,op,a8,bF,queue,last,bK,bS,code⟩ b4 ⟨by dsimp only;omega,by dsimp only;omega⟩;unfold kJ cj at oi;unfold kJ at ap;dsimp only at oi ap;(refine bH oi ?_;and_intros <;> intros)
     all_goals first
      | (exact⟨(a8++[jj op],op+1),H0,N4,ba⟩)
      | (exfalso;omega)
      | skip
   ·have zs:⟨false,space,bg,bc,bp,ids,bJ,op,a8,bF,queue,last,bK,bS,code⟩=C/\(0:Int)=e:=by
     cases hm:4 - a8.length with
     | zero=>rw[hm,vk,ah fb] at ap;cases ap;exact⟨rfl,rfl⟩
     | succ m=>rw[hm,vl,ah fb] at ap;cases ap;exact⟨rfl,rfl⟩
    obtain ⟨rfl,rfl⟩:=zs;clear ap;have c1:=Dq ⟨false,space,bg,bc,bp,ids,bJ,op,a8,bF,queue,last,bK,bS,code⟩ id b4;unfold cj at c1;rw[al rfl] at hi;dsimp only at c1 hi;rw[<- hi] at c1;(refine bH c1 ?_;and_intros <;> intros)
    all_goals (try dsimp only at *)
    all_goals first|exact dA|skip
 ·rw[al rfl] at ap;by_cases zt:opened<=id
  ·rw[al zt] at ap
   cases ap
   rw[ah (by decide)] at hi;subst hi;refine aH Tryz.func149 ?_;(try refine ay ?_;and_intros <;> intros)
   all_goals (try dsimp only at *)
   all_goals first|exact dA|skip
  ·rw[ah zt] at ap;have hid:opened<=id->id<4611686018427387903:=fun h=>absurd h zt
   replace ap:lh (4 - aC.length) ⟨true,space,bg,bc,bp,ids,bJ,opened,aC,bF,queue,last,bK,bS,code⟩ id=(C,e):=by
    rw[<- ap]
    cases hm:4 - aC.length with
    | zero=>rw[vk,ah zt]
    | succ m=>rw[vl,ah zt]
   refine aH Tryz.func149 ?_;(try refine ay ?_;and_intros <;> intros)
   all_goals (try dsimp only at *)
   all_goals try (exfalso;omega)
   refine cv (fun x:List cS×Int=>⟨[(1,I id),(2,.ptr 0 0 0 0),(4,.ptr 1 0 0 0)],[(0,some (.box 51 [ab true,I space.Next,.ro (space.aR.map bC),I space.c9,.ro (space.cD.map aB),.ro (space.bI.map encI),I bg.bj,I bg.dy,I bg.c0,I bg.Since,I bc.Max,I bc.bG,I bp.Max,I bp.bG,I ids,I bJ,I x.2,.ro (x.1.map eo),ab bF,.ro (queue.map aO),I last,I bK,ab bS,I code])),(1,some (.box 51 [ab false,I 0,aX,I 0,aX,aX,I 0,I 0,I 0,I 0,I 0,I 0,I 0,I 0,I 0,I 0,I 0,aX,ab false,aX,I 0,I 0,ab false,I 0]))],2,Tryz.f149.ntmps⟩)
    (fun x=>x.1.length<=4/\0<=x.2/\(x.2<=id->id<4611686018427387903)/\lh (4 - x.1.length) ⟨true,space,bg,bc,bp,ids,bJ,x.2,x.1,bF,queue,last,bK,bS,code⟩ id=(C,e)) (fun x=>4 - x.1.length) (aC,opened) ⟨ao,ae,hid,ap⟩ fP ?_
   clear ap hid;rintro ⟨a8,op⟩ ⟨ao,ae,hid,ap⟩;dsimp only at *;by_cases fb:op<=id
   ·have hid:=hid fb;by_cases bk:a8.length=4
    ·rw[show 4 - a8.length=0 by omega,vk,al fb] at ap
     cases ap
     rw[ah (by decide)] at hi;subst hi;(try refine ay ?_;and_intros <;> intros)
     all_goals (try dsimp only at *)
     all_goals first|exact dA|skip
    ·obtain ⟨m,hm⟩:∃ m,4 - a8.length=m+1:=⟨3 - a8.length,by omega⟩;rw[hm,vl,al fb] at ap;have oi:=N3 ⟨true,space,bg,bc,bp,ids,bJ,op,a8,bF,queue,last,bK,bS,code⟩ b4 ⟨by dsimp only;omega,by dsimp only;omega⟩;unfold kJ cj at oi;unfold kJ at ap;dsimp only at oi ap;(refine bH oi ?_;and_intros <;> intros)
     all_goals first
      | (exact⟨(a8++[jj op],op+1),H0,N4,ba⟩)
      | (exfalso;omega)
      | skip
   ·have zs:⟨true,space,bg,bc,bp,ids,bJ,op,a8,bF,queue,last,bK,bS,code⟩=C/\(0:Int)=e:=by
     cases hm:4 - a8.length with
     | zero=>rw[hm,vk,ah fb] at ap;cases ap;exact⟨rfl,rfl⟩
     | succ m=>rw[hm,vl,ah fb] at ap;cases ap;exact⟨rfl,rfl⟩
    obtain ⟨rfl,rfl⟩:=zs;clear ap;have c1:=Dq ⟨true,space,bg,bc,bp,ids,bJ,op,a8,bF,queue,last,bK,bS,code⟩ id b4;unfold cj at c1;rw[al rfl] at hi;dsimp only at c1 hi;rw[<- hi] at c1;(refine bH c1 ?_;and_intros <;> intros)
    all_goals (try dsimp only at *)
    all_goals first|exact dA|skip
end
section
set_option maxRecDepth 100000
attribute [local irreducible] cE a6 bu GStep Fn cg bf
theorem H2 (r:aK):∀ (l:List aK) (s:Int×List aK),s.2≠[]->(l.foldl (pO r) s).2≠[]
 | [],s,h=>h
 | x :: l,s,h=>by
  rw[List.foldl_cons];refine H2 r l _ ?_;unfold pO;split
  ·exact h
  ·simp[h]
theorem N5 {r:aK} {s:Int×List aK} (h:s.2≠[]):qI r s≠[]:=by unfold qI;simp[h]
theorem Vv {A:List aK} {n:Int} (aw:eD (-2) A) (hn:1<=n) (Vw:n<=600) (zu:∀ x ∈ A,x.bz<n):jb A ⟨0,n - 1⟩ A.length=[] ↔ A=[aK.mk 0 (n - 1)]:=by
 have hr:b9 ⟨0,n - 1⟩:=by unfold b9;dsimp only;omega
 rw[Vx aw hr];unfold gu;rw[List.take_length];rcases A with _ | ⟨x,l⟩
 ·constructor
  ·intro h;unfold qI at h;rw[al (by dsimp only[List.foldl_nil];omega)] at h;simp at h
  ·intro h;cases h
 ·have U:=(iC aw x (by simp)).1;have xr:=zu x (by simp);unfold b9 at U;rw[List.foldl_cons];have e:pO ⟨0,n - 1⟩ ((aK.mk 0 (n - 1)).bE,[]) x=(x.bz+1,if 0<x.bE then[⟨0,x.bE - 1⟩] else[]):=by
   unfold pO;rw[ah b4];rfl
  rw[e];by_cases ai:0<x.bE
  ·rw[al ai];constructor
   ·intro h;exact absurd h (N5 (H2 _ _ _ (by simp)))
   ·intro h;injection h with h _;subst h;dsimp only at ai;omega
  ·rw[ah ai];rcases l with _ | ⟨y,l⟩
   ·rw[List.foldl_nil];unfold qI;dsimp only;constructor
    ·intro h;split at h
     ·simp at h
     ·rw[show x=aK.mk 0 (n - 1) from BI b4 b4]
    ·intro h;injection h with h _;subst h;rw[ah b4];rfl
   ·have aj:=(iC aw.2.2 y (by simp));have abS:=zu y (by simp);unfold b9 at aj;constructor
    ·intro h;refine absurd h (N5 ?_);rw[List.foldl_cons];refine H2 _ _ _ ?_;unfold pO;rw[ah b4,al b4];simp
    ·intro h;cases h
theorem SV (s:ee) (hw:bT.hg s):Fn Tryz.prog 151 [.agg (fc s)] (.bN [ab (p5 s),I (lE s)]):=by
 have J:=Cc s hw;have NV:=hw.2.2.2.2.2.1;clear hw;rcases r6 s with⟨ai,bP⟩ | ⟨ai,re⟩
 ·rw[ai] at J ⊢;have hb:p5 s=yes (u0 s):=by unfold p5;by_cases h:u0 s;rw[j6 h,j6 ⟨bP,h⟩];rw[jM h,jM (fun q=>h q.2)]
  rw[hb];have hh:=bP.1.1.1;have aw:=qF hh.2.2.2.2.2.2.1;have zu:=(rp aw).1 bP.1.2;have hn:s.Next<=s.Data.length/\s.Data.length<=600:=by unfold oh at hh;omega
  clear hb bP hh;obtain ⟨data,fin,next,jy,lost,dO,hT,b8⟩:=s;unfold u0;dsimp only at *;dsimp only[fc] at J ⊢;by_cases hd:data.length=0
  ·obtain rfl:dO=[]:=by
    rcases dO with _ | ⟨x,l⟩
    ·rfl
    ·have:=(iC aw x (by simp)).1;have:=zu x (by simp);unfold b9 at *;omega
   refine aH Tryz.func151 ?_;(refine bH J ?_;and_intros <;> intros);refine cv (fun _:Unit=>⟨[(1,.ptr 0 0 0 0),(5,aX),(24,.ro []),(25,I 0),(26,I 0)],[(0,some (.box 132 [.ro (data.map bm),ab fin,I next,I jy,.ro (lost.map aB),.ro [],ab hT,ab b8]))],1,Tryz.f151.ntmps⟩) (fun _=>True) (fun _=>0) () trivial dV ?_;intro _ _
   cases b8
   ·(try refine ay ?_;and_intros <;> intros)
    all_goals (refine bX (hr:=?_);rw[jM (fun h=>by cases h.1)])
   ·(try refine ay ?_;and_intros <;> intros)
    all_goals (refine bX (hr:=?_);rw[j6 ⟨rfl,.inl hd⟩])
  ·have h8:=Vv (n:=data.length) aw (by omega) (by omega) (fun x U=>by have:=zu x U;omega);have mi:=fun k ag=>tI (l:=dO) (r:=⟨0,(data.length:Int) - 1⟩) aw (by unfold b9;dsimp only;omega) k ag
   refine aH Tryz.func151 ?_;(repeat' first|refine bh J ?_|(refine Vy (r:=[aK.mk 0 ((data.length:Int) - 1)].map aB) (hr:=?_) (h:=?_);(focus (rfl)))|(refine eF ?_;(and_intros <;> intros))|refine cb (h:=?_)|refine cb (hq:=vm rfl rfl rfl zv zw rfl rfl rfl rfl) (h:=?_)|refine rQ (h:=?_)|refine da (h:=?_)|refine tJ (h:=?_)|refine zx (h:=?_)|refine zy (h:=?_)|refine zz (h:=?_)|refine zA (h:=?_)|refine xb (h:=?_)|((first|refine zB rfl ?_ (h:=?_)|refine zC rfl ?_ (h:=?_));(exact lK))|fail);refine cv (fun k:Nat=>⟨[(1,.ptr 0 0 0 0),(5,.ro ((jb dO ⟨0,(data.length:Int) - 1⟩ k).map aB)),(24,.ro (dO.map aB)),(25,I dO.length),(26,I k)],[(0,some (.box 132 [.ro (data.map bm),ab fin,I next,I jy,.ro (lost.map aB),.ro (dO.map aB),ab hT,ab b8]))],1,Tryz.f151.ntmps⟩)
    (fun k=>k<=dO.length) (fun k=>dO.length - k) 0 (cm _) dV ?_
   intro k ag;by_cases au:k<dO.length
   ·have hq:=mi k ag;have N6:=HT (jb dO ⟨0,(data.length:Int) - 1⟩ k) (dO.getD k default) hq.1 (iC aw _ (cc au)).1 (by omega);rw[<- Dr au] at N6;(refine bH N6 ?_;and_intros <;> intros)
    all_goals (exact⟨k+1,(by omega),au,ba⟩)
   ·have ca:k=dO.length:=by omega
    subst ca;have hq:=(mi dO.length ag).2;clear J mi
    cases b8
    ·(try refine ay ?_;and_intros <;> intros)
     all_goals (refine bX (hr:=?_);rw[jM (fun h=>by cases h.1)])
    ·by_cases he:jb dO ⟨0,(data.length:Int) - 1⟩ dO.length=[]
     ·have lR:(jb dO ⟨0,(data.length:Int) - 1⟩ dO.length).length=0:=by rw[he];rfl
      (try refine ay ?_;and_intros <;> intros)
      all_goals (refine bX (hr:=?_);rw[j6 ⟨rfl,.inr (h8.1 he)⟩])
     ·have lR:0<(jb dO ⟨0,(data.length:Int) - 1⟩ dO.length).length:=List.length_pos_iff.2 he;(try refine ay ?_;and_intros <;> intros)
      all_goals (refine bX (hr:=?_);rw[jM (fun h=>by rcases h.2 with h|h;exact hd h;exact he (h8.2 h))])
 ·rw[ai] at J ⊢;rw[show p5 s=false from jM (fun h=>re h.1)];refine aH Tryz.func151 ?_;(refine bH J ?_;and_intros <;> intros)
  all_goals exact bX (hr:=rfl)
end
section
set_option maxRecDepth 100000
attribute [local irreducible] cE a6 bu GStep Fn cg bf cA
theorem Tl {B:Nat} (c:aG) (f:bo) (now:Int) (ad:c3 c) (ao:cK B c) (an:B<=16777216) (gw:dx f) (hff:gx f=0) (ag:f.Kind≠8/\f.Kind≠4/\f.Kind≠5/\f.Kind≠17) (C:aG) (e:Int) (ap:gY c f now=(C,e)) :
  Fn Tryz.prog 69 [.agg (cj c),.agg (aO f),I now] (.bN [.agg (cj C),I e]):=by
 obtain ⟨ib,jI,mC,qf⟩:=ag;have q4:=sX hff;unfold gY at ap;rw[ah ib,ah jI,ah mC,ah qf] at ap;by_cases de:f.Kind=2
 ·rw[al de] at ap;have dC:=Vz c f now ad ao an gw C e ap;clear ap ad ao gw hff;unfold cj at *;obtain ⟨cF,cn,cL,fin,dj,dI,dh⟩:=f;dsimp only at *;subst de;unfold aO;(try unfold cj);(try dsimp only);refine aH Tryz.func69 ?_;(refine bH dC ?_;and_intros <;> intros)
  all_goals first|exact gL|skip
 rw[ah de] at ap;have hq:=ao.iK;have VA:=ad.mg;clear ad ao gw hff;obtain ⟨cF,cn,cL,fin,dj,dI,dh⟩:=f;dsimp only at *;by_cases sb:cF=16
 ·subst sb;rw[al rfl] at ap;have fS:=Uf c.eh cL;obtain ⟨aA,space,bg,bc,bp,ids,bJ,opened,aC,bF,queue,last,bK,bS,code⟩:=c;unfold B2 at ap;dsimp only at *;have ai:(k7 bp cL).2=0:=by unfold k7;rw[al VA,ah (by omega)]
  generalize k7 bp cL=R at *;obtain ⟨dv,uA⟩:=R;dsimp only at *;subst ai
  cases ap
  unfold aO;(try unfold cj);(try dsimp only);refine aH Tryz.func69 ?_;(refine bH fS ?_;and_intros <;> intros)
  all_goals first|exact gL|skip
 rw[ah sb] at ap;by_cases sc:cF=18
 ·subst sc;rw[al rfl] at ap;obtain ⟨aA,space,bg,bc,bp,ids,bJ,opened,aC,bF,queue,last,bK,bS,code⟩:=c;unfold ym at ap;dsimp only at *
  cases aA
  ·rw[ah iS] at ap
   cases ap
   unfold aO;(try unfold cj);(try dsimp only);refine aH Tryz.func69 ?_;(try refine ay ?_;and_intros <;> intros)
   all_goals first|exact gL|skip
  ·rw[al rfl,Int.max_comm] at ap
   cases ap
   unfold aO;(try unfold cj);(try dsimp only);refine aH Tryz.func69 ?_;(try refine ay ?_;and_intros <;> intros)
   all_goals first|exact gL|skip
 rw[ah sc] at ap;by_cases tm:cF=26
 ·subst tm;rw[al rfl] at ap;have hp:=yr c (tl dj) hq;unfold tl fE cj at *;obtain ⟨aA,space,bg,bc,bp,ids,bJ,opened,aC,bF,queue,last,bK,bS,code⟩:=c;dsimp only at *;generalize fK queue ⟨27,0,0,false,dj,[],[]⟩=T at *;obtain ⟨rP,p6⟩:=T;dsimp only at *
  cases ap
  unfold aO;(try unfold cj);(try dsimp only);refine aH Tryz.func69 ?_;(refine bH hp ?_;and_intros <;> intros)
  all_goals first|exact gL|skip
 rw[ah tm] at ap;by_cases hs:cF=28
 ·subst hs;rw[al rfl] at ap;unfold mq at ap
  cases ap
  obtain ⟨aA,space,bg,bc,bp,ids,bJ,opened,aC,bF,queue,last,bK,bS,code⟩:=c;dsimp only at *;unfold aO;(try unfold cj);(try dsimp only);refine aH Tryz.func69 ?_;(try refine ay ?_;and_intros <;> intros)
  all_goals first|exact gL|skip
 rw[ah hs] at ap
 cases ap
 obtain ⟨aA,space,bg,bc,bp,ids,bJ,opened,aC,bF,queue,last,bK,bS,code⟩:=c;dsimp only at *;unfold aO;(try unfold cj);(try dsimp only);refine aH Tryz.func69 ?_;(try refine ay ?_;and_intros <;> intros)
 all_goals first|exact gL|skip
end
end Go.Proofs.YtendheafcbickaaGreat
