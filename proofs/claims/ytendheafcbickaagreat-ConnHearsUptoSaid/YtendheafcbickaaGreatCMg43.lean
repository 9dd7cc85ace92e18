/-
  SEVERAL TEXTS IN ONE: each with its own comment.
-/
import Derived.Test.YtendheafcbickaaGreatCMg53
set_option linter.unusedVariables false
set_option linter.unusedSimpArgs false
set_option maxHeartbeats 16000000
namespace Go.Proofs.YtendheafcbickaaGreat
section
set_option maxRecDepth 100000
attribute [local irreducible] cE a6 bu GStep Fn cg bf
theorem Zh (l m:List Int) (ao:l.length * 8<=140737488355328) (hm:m.length * 8<=140737488355328):Fn Tryz.prog 159 [.ro (l.map encI),.ro (m.map encI)] (ab (yes (l=m))):=by
 by_cases hlen:l.length=m.length
 ·refine aH Tryz.func159 ?_;(try refine ay ?_;and_intros <;> intros);refine cv (fun x:Nat×Bool=>⟨[(0,.ro (l.map encI)),(1,.ro (m.map encI)),(5,ab x.2),(6,I x.1)],[],0,Tryz.f159.ntmps⟩)
   (fun x=>x7 l m (l=m) x.1 x.2) (fun x=>l.length - x.1) (0,true) ⟨cm _,fun _=>⟨hlen,rfl⟩,fun h=>by cases h⟩ dV ?_
  rintro ⟨k,ok⟩ ⟨ag,aw,hn⟩;dsimp only at ag aw hn ⊢
  cases ok
  ·(try refine ay ?_;and_intros <;> intros)
   all_goals (refine bX (hr:=?_);exact oy (hn rfl))
  ·obtain ⟨_,ht⟩:=aw rfl;by_cases au:k<l.length
   ·skip;(try refine ay ?_;and_intros <;> intros)
    all_goals first
     | (exact⟨(k+1,true),b4,⟨au,fun _=>⟨hlen,x8 au (by omega) ht cu⟩,fun h=>by cases h⟩,ba⟩)
     | (exact⟨(k+1,false),b4,⟨au,fun h=>(by cases h),fun _=>BJ (k:=k) cu⟩,ba⟩)
   ·(try refine ay ?_;and_intros <;> intros)
    all_goals (refine bX (hr:=?_);exact rH (x9 (by omega) (by omega) ht))
 ·refine aH Tryz.func159 ?_;(try refine ay ?_;and_intros <;> intros);refine cv (fun _:Unit=>⟨[(5,ab false)],[],0,Tryz.f159.ntmps⟩) (fun _=>True) (fun _=>0) () trivial dV ?_;intro _ _;(try refine ay ?_;and_intros <;> intros)
  all_goals (refine bX (hr:=?_);exact oy (fun e=>hlen (by rw[e])))
theorem QI (a b:bo) (br:dx a) (hb:dx b):Fn Tryz.prog 160 [.agg (aO a),.agg (aO b)] (ab (yes (a=b))):=by
 have J:=BH a.ec b.ec (by have:=br.2.2.2.2.1;omega) (by have:=hb.2.2.2.2.1;omega);have aa:=zH a.Data b.Data;refine aH Tryz.func160 ?_;(repeat' first|(refine uj (J) (ht:=?_) (hff:=?_) <;> intro _ <;> try (exfalso;omega))|(refine uk (J) (ht:=?_) (hff:=?_) <;> intro _ <;> try (exfalso;omega))|(refine uj (aa) (ht:=?_) (hff:=?_) <;> intro _ <;> try (exfalso;omega))|(refine uk (aa) (ht:=?_) (hff:=?_) <;> intro _ <;> try (exfalso;omega))|(refine ay ?_;(and_intros <;> intros))|fail)
 all_goals (refine bX (hr:=?_))
 all_goals first
  | exact rH (Yk cu cu cu cu cu cu cu)
  | exact oy (fun e=>by subst e;first|contradiction|simp_all)
theorem Ks (l m:List bo) (ao:l.length * 88<=140737488355328) (hm:m.length * 88<=140737488355328) (wl:∀ y,y ∈ l->dx y) (Kt:∀ y,y ∈ m->dx y):Fn Tryz.prog 73 [.ro (l.map aO),.ro (m.map aO)] (ab (yes (l=m))):=by
 by_cases hlen:l.length=m.length
 ·refine aH Tryz.func73 ?_;(try refine ay ?_;and_intros <;> intros);refine cv (fun x:Nat×Bool=>⟨[(0,.ro (l.map aO)),(1,.ro (m.map aO)),(5,ab x.2),(6,I x.1)],[],0,Tryz.f73.ntmps⟩)
   (fun x=>x7 l m (l=m) x.1 x.2) (fun x=>l.length - x.1) (0,true) ⟨cm _,fun _=>⟨hlen,rfl⟩,fun h=>by cases h⟩ dV ?_
  rintro ⟨k,ok⟩ ⟨ag,aw,hn⟩;dsimp only at ag aw hn ⊢
  cases ok
  ·(try refine ay ?_;and_intros <;> intros)
   all_goals (refine bX (hr:=?_);exact oy (hn rfl))
  ·obtain ⟨_,ht⟩:=aw rfl;by_cases au:k<l.length
   ·skip;have U:=wl _ (cc au);have aj:=Kt _ (cc (show k<m.length by omega));(repeat' first|(refine uj (QI _ _ U aj) (ht:=?_) (hff:=?_) <;> intro _ <;> try (exfalso;omega))|(refine uk (QI _ _ U aj) (ht:=?_) (hff:=?_) <;> intro _ <;> try (exfalso;omega))|(refine ay ?_;(and_intros <;> intros))|fail)
    all_goals first
     | (exact⟨(k+1,true),b4,⟨au,fun _=>⟨hlen,x8 au (by omega) ht cu⟩,fun h=>by cases h⟩,ba⟩)
     | (exact⟨(k+1,false),b4,⟨au,fun h=>(by cases h),fun _=>BJ (k:=k) cu⟩,ba⟩)
   ·(try refine ay ?_;and_intros <;> intros)
    all_goals (refine bX (hr:=?_);exact rH (x9 (by omega) (by omega) ht))
 ·refine aH Tryz.func73 ?_;(try refine ay ?_;and_intros <;> intros);refine cv (fun _:Unit=>⟨[(5,ab false)],[],0,Tryz.f73.ntmps⟩) (fun _=>True) (fun _=>0) () trivial dV ?_;intro _ _;(try refine ay ?_;and_intros <;> intros)
  all_goals (refine bX (hr:=?_);exact oy (fun e=>hlen (by rw[e])))
theorem Zi (l m:List eN) (ao:l.length * 48<=140737488355328) (hm:m.length * 48<=140737488355328) (wl:∀ y,y ∈ l->ji y) (Kt:∀ y,y ∈ m->ji y):Fn Tryz.prog 157 [.ro (l.map bC),.ro (m.map bC)] (ab (yes (l=m))):=by
 by_cases hlen:l.length=m.length
 ·refine aH Tryz.func157 ?_;(try refine ay ?_;and_intros <;> intros);refine cv (fun x:Nat×Bool=>⟨[(0,.ro (l.map bC)),(1,.ro (m.map bC)),(5,ab x.2),(6,I x.1)],[],0,Tryz.f157.ntmps⟩)
   (fun x=>x7 l m (l=m) x.1 x.2) (fun x=>l.length - x.1) (0,true) ⟨cm _,fun _=>⟨hlen,rfl⟩,fun h=>by cases h⟩ dV ?_
  rintro ⟨k,ok⟩ ⟨ag,aw,hn⟩;dsimp only at ag aw hn ⊢
  cases ok
  ·(try refine ay ?_;and_intros <;> intros)
   all_goals (refine bX (hr:=?_);exact oy (hn rfl))
  ·obtain ⟨_,ht⟩:=aw rfl;by_cases au:k<l.length
   ·skip;have U:=wl _ (cc au);have aj:=Kt _ (cc (show k<m.length by omega));(repeat' first|(refine uj (Ks _ _ (by have:=U.2.2.2.1;omega) (by have:=aj.2.2.2.1;omega) U.2.2.2.2 aj.2.2.2.2) (ht:=?_) (hff:=?_) <;> intro _ <;> try (exfalso;omega))|(refine uk (Ks _ _ (by have:=U.2.2.2.1;omega) (by have:=aj.2.2.2.1;omega) U.2.2.2.2 aj.2.2.2.2) (ht:=?_) (hff:=?_) <;> intro _ <;> try (exfalso;omega))|(refine ay ?_;(and_intros <;> intros))|fail)
    all_goals first
     | (exact⟨(k+1,true),b4,⟨au,fun _=>⟨hlen,x8 au (by omega) ht (by exact Yl cu cu cu cu)⟩,fun h=>by cases h⟩,ba⟩)
     | (exact⟨(k+1,false),b4,⟨au,fun h=>(by cases h),fun _=>BJ (k:=k) (by first|exact fun e=>absurd (congrArg eN.Number e) cu|exact fun e=>absurd (congrArg eN.Time e) cu|exact fun e=>absurd (congrArg eN.hG e) cu|exact fun e=>absurd (congrArg eN.Frames e) cu)⟩,ba⟩)
   ·(try refine ay ?_;and_intros <;> intros)
    all_goals (refine bX (hr:=?_);exact rH (x9 (by omega) (by omega) ht))
 ·refine aH Tryz.func157 ?_;(try refine ay ?_;and_intros <;> intros);refine cv (fun _:Unit=>⟨[(5,ab false)],[],0,Tryz.f157.ntmps⟩) (fun _=>True) (fun _=>0) () trivial dV ?_;intro _ _;(try refine ay ?_;and_intros <;> intros)
  all_goals (refine bX (hr:=?_);exact oy (fun e=>hlen (by rw[e])))
theorem Zj (a b:ey) (br:gM a) (hb:gM b):Fn Tryz.prog 72 [.agg (iB a),.agg (iB b)] (ab (yes (a=b))):=by
 have J:=BH a.cD b.cD (by have:=br.2.2.2.2.1;omega) (by have:=hb.2.2.2.2.1;omega);have aa:=Zh a.bI b.bI (by have:=br.2.2.2.2.2.2.1;omega) (by have:=hb.2.2.2.2.2.2.1;omega);have az:=Zi a.aR b.aR (by have:=br.2.1;omega) (by have:=hb.2.1;omega) br.2.2.1 hb.2.2.1;refine aH Tryz.func72 ?_;(repeat' first|(refine uj (J) (ht:=?_) (hff:=?_) <;> intro _ <;> try (exfalso;omega))|(refine uk (J) (ht:=?_) (hff:=?_) <;> intro _ <;> try (exfalso;omega))|(refine uj (aa) (ht:=?_) (hff:=?_) <;> intro _ <;> try (exfalso;omega))|(refine uk (aa) (ht:=?_) (hff:=?_) <;> intro _ <;> try (exfalso;omega))|(refine uj (az) (ht:=?_) (hff:=?_) <;> intro _ <;> try (exfalso;omega))|(refine uk (az) (ht:=?_) (hff:=?_) <;> intro _ <;> try (exfalso;omega))|(refine ay ?_;(and_intros <;> intros))|fail)
 all_goals (refine bX (hr:=?_))
 all_goals first
  | exact rH (Ym cu cu cu cu cu)
  | exact oy (fun e=>by subst e;first|contradiction|simp_all)
end
section
set_option maxRecDepth 100000
attribute [local irreducible] cE a6 bu GStep Fn cg bf cA
theorem XB (c:aG) (hw:fw c):Fn Tryz.prog 24 [.agg (cj c),.agg (cj c)] (ab true):=by
 obtain ⟨w0,c4,du,w3,e9,fa,gy,hL,ki,oK,kj,lW,lX,nV⟩:=hw;have J:=Zj c.aQ c.aQ w0 w0;have aa:=Ks c.Queue c.Queue (by omega) (by omega) kj kj;rw[j6 rfl] at J aa;have hK:c.aq.length<=1000000000000000:=by omega
 clear w0 c4 du w3 e9 fa gy oK kj lW lX nV;obtain ⟨aA,space,bg,bc,bp,ids,bJ,opened,aC,bF,queue,last,bK,bS,code⟩:=c;dsimp only at *;generalize dZ:cj ⟨aA,space,bg,bc,bp,ids,bJ,opened,aC,bF,queue,last,bK,bS,code⟩=C;unfold cj at dZ;dsimp only at dZ;subst dZ;refine aH Tryz.func24 ?_;refine gW ?_;refine nW ?_;(repeat' first|(refine q5 ?_;(and_intros <;> intros))|fail);refine nX ?_;refine je (fun _:Unit=>⟨[(2,.ptr 0 0 0 0),(3,.ptr 1 0 0 0),(5,ab true)],[(0,some (.box 51 [ab aA,I space.Next,.ro (space.aR.map bC),I space.c9,.ro (space.cD.map aB),.ro (space.bI.map encI),I bg.bj,I bg.dy,I bg.c0,I bg.Since,I bc.Max,I bc.bG,I bp.Max,I bp.bG,I ids,I bJ,I opened,.ro (aC.map eo),ab bF,.ro (queue.map aO),I last,I bK,ab bS,I code])),(1,some (.box 51 [ab aA,I space.Next,.ro (space.aR.map bC),I space.c9,.ro (space.cD.map aB),.ro (space.bI.map encI),I bg.bj,I bg.dy,I bg.c0,I bg.Since,I bc.Max,I bc.bG,I bp.Max,I bp.bG,I ids,I bJ,I opened,.ro (aC.map eo),ab bF,.ro (queue.map aO),I last,I bK,ab bS,I code]))],2,Tryz.f24.ntmps⟩) (fun _=>True) ?_ ?_
 ·cases aA <;> cases bF <;> cases bS
  all_goals (refine jJ J aa ?_;and_intros <;> intros)
  all_goals first
   | (exact⟨(),trivial,ba⟩)
   | skip
 rintro ⟨⟩ -;clear J aa;(try refine ay ?_;and_intros <;> intros);refine cv (fun k:Nat=>⟨[(2,.ptr 0 0 0 0),(3,.ptr 1 0 0 0),(5,ab true),(6,I k)],[(0,some (.box 51 [ab aA,I space.Next,.ro (space.aR.map bC),I space.c9,.ro (space.cD.map aB),.ro (space.bI.map encI),I bg.bj,I bg.dy,I bg.c0,I bg.Since,I bc.Max,I bc.bG,I bp.Max,I bp.bG,I ids,I bJ,I opened,.ro (aC.map eo),ab bF,.ro (queue.map aO),I last,I bK,ab bS,I code])),(1,some (.box 51 [ab aA,I space.Next,.ro (space.aR.map bC),I space.c9,.ro (space.cD.map aB),.ro (space.bI.map encI),I bg.bj,I bg.dy,I bg.c0,I bg.Since,I bc.Max,I bc.bG,I bp.Max,I bp.bG,I ids,I bJ,I opened,.ro (aC.map eo),ab bF,.ro (queue.map aO),I last,I bK,ab bS,I code]))],2,Tryz.f24.ntmps⟩)
  (fun k=>k<=aC.length) (fun k=>aC.length - k) 0 (cm _) fP ?_
 intro k ag;by_cases au:k<aC.length
 ·have hf:=ki _ (cc au);have aL:=hf.2.2.2.2.2.2.1;have aS:=hf.2.2.2.2.2.2.2.2.1;have J:=Zk _ _ hf.2.1 hf.2.1;have aa:=zH (aC.getD k default).Read (aC.getD k default).Read;have az:=YJ (aC.getD k default).Out aL aS;rw[j6 rfl] at J aa;clear hf ki
  cases nN:(aC.getD k default).Over <;> cases k3:(aC.getD k default).Cut
  all_goals (refine pt J aa az ?_;and_intros <;> intros)
  all_goals first|exact Bl|skip
 ·have ca:k=aC.length:=by omega
  subst ca;(try refine ay ?_;and_intros <;> intros)
  all_goals exact bX (hr:=rfl)
end
variable {B:Nat} {C c:aG} {P:Program} {TB TE TL TQ:TypeId} {args:List V} {fn:FuncId} {r:V}
section
set_option maxRecDepth 100000
theorem QP (ao:cK B c) (iT:cz.ej jA args=args) (qv:∀ u:Int->Value,(∀ i,c.cN<=i->u i = .slice none 0 0)->cA P fn args [(0,some (.box TE (a1 c (.own 1) (.own 2)))),(1,some (.row TL 16 (c.aq.map (aV u)))),(2,some (.row TQ 7 (c.Queue.map aO)))] 3 r
   [(0,some (.box TE (a1 C (.own 3) (.own 4))))] 5) :
  cA P fn args [(0,some (.box TE (a1 c (.own 1) (.own 2)))),(1,some (.ch TL 16 (cM 3 c.aq))),(2,some (.row TQ 7 (c.Queue.map aO))),(3,some (.row TB 1 (bV c 0))),(4,some (.row TB 1 (bV c 1))),(5,some (.row TB 1 (bV c 2))),(6,some (.row TB 1 (bV c 3)))] 7
   (cz jA r) [(0,some (.box TE (a1 C (.own 7) (.own 8))))] 9:=by
 have ti:∀ i,i<c.aq.length->lm c.aq i<(c.aq.getD i default).Id:=fun i hi=>(ao.lD i hi).1
 have ar:∀ (l:List cS) i,i<(l.map (aV dE)).length->(bb (l.map (aV dE)) i).length=16/\(bb (l.map (aV dE)) i).all hQ=true:=fun l i hi=>by
  rw[bY] at hi;rw[gV (aV dE) hi];exact⟨rfl,rfl⟩
 have h:=Uj (P:=P) (f:=fn) (args:=args) (r:=r) (TE:=TE) (TL:=TL) (TQ:=TQ) (TB:=TB) (s:=16) (sq:=7) (c:=5) (bx:=a1 c (.own 1) (.own 2)) (nA:=a1 C (.own 3) (.own 4)) (q:=c.Queue.map aO)
  (A:=c.aq.map (aV dE)) (R:=bV c) (fun v ak=>by
   rw[bY] at ak;have aI:=xv dE (o2 c.aq v) c.aq v (fun i hi=>by unfold o2;rw[DB ti hi,al hi]);rw[aI]
   exact qv _ (fun id hid=>by unfold o2;rw[ah (DD ao hid)];rfl))
  (by rw[bY];exact ao.eg) (ar c.aq) (fun i hi=>by rw[bY] at hi;unfold bV;rw[ah (by omega)]) iT rfl
 exact h
theorem Zy (c:aG) (f:bo) (now:Int) (ad:c3 c) (ao:cK B c) (an:B<=16777216) (hf:dx f) (ib:f.Kind≠8) (C:aG) (e:Int) (ap:gY c f now=(C,e)) (he:e≠0) (TB:TypeId) :
  cA Tryz.prog 63 [.ptr 0 0 0 0,.agg (aO f),I now] [(0,some (.box 116 (a1 c (.own 1) (.own 2)))),(1,some (.ch 134 16 (cM 3 c.aq))),(2,some (.row 111 7 (c.Queue.map aO))),(3,some (.row TB 1 (bV c 0))),(4,some (.row TB 1 (bV c 1))),(5,some (.row TB 1 (bV c 2))),(6,some (.row TB 1 (bV c 3)))] 7
   (I e) [(0,some (.box 116 (a1 C (.own 7) (.own 8))))] 9:=by
 exact QP ao rfl (fun u hu=>G6 u c f now ad ao an hf hu ib C e ap _ (.inr ⟨he,rfl⟩))
theorem Ve (c:aG) (ad:c3 c) (ao:cK B c) (C:aG) (e:Int) (ap:lb c=(C,e)) (he:e≠0) (TB:TypeId) :
  cA Tryz.prog 64 [.ptr 0 0 0 0] [(0,some (.box 116 (a1 c (.own 1) (.own 2)))),(1,some (.ch 134 16 (cM 3 c.aq))),(2,some (.row 111 7 (c.Queue.map aO))),(3,some (.row TB 1 (bV c 0))),(4,some (.row TB 1 (bV c 1))),(5,some (.row TB 1 (bV c 2))),(6,some (.row TB 1 (bV c 3)))] 7
   (I e) [(0,some (.box 116 (a1 C (.own 7) (.own 8))))] 9:=by
 exact QP ao rfl (fun u hu=>Oz u c ad ao C e ap _ (.inr ⟨he,rfl⟩))
theorem Zz (ao:cK B c) (dZ:C.aq=[]) (iT:cz.ej jA args=args) (qv:∀ u:Int->Value,(∀ i,c.cN<=i->u i = .slice none 0 0)->cA P fn args [(0,some (.box TE (a1 c (.own 1) (.own 2)))),(1,some (.row TL 16 (c.aq.map (aV u)))),(2,some (.row TQ 7 (c.Queue.map aO)))] 3 r
   [(0,some (.box TE (a1 C (.own 3) (.own 4)))),(3,some (.row TL 16 (C.aq.map (aV u)))),(4,some (.row TQ 7 (C.Queue.map aO)))] 5) :
  cA P fn args [(0,some (.box TE (a1 c (.own 1) (.own 2)))),(1,some (.ch TL 16 (cM 3 c.aq))),(2,some (.row TQ 7 (c.Queue.map aO))),(3,some (.row TB 1 (bV c 0))),(4,some (.row TB 1 (bV c 1))),(5,some (.row TB 1 (bV c 2))),(6,some (.row TB 1 (bV c 3)))] 7
   (cz jA r) [(0,some (.box TE (a1 C (.own 7) (.own 8)))),(7,some (.ch TL 16 (cM 9 C.aq))),(8,some (.row TQ 7 (C.Queue.map aO))),(9,some (.row TB 1 (bV c 0))),(10,some (.row TB 1 (bV c 1))),(11,some (.row TB 1 (bV c 2))),(12,some (.row TB 1 (bV c 3)))] 13:=by
 have ti:∀ i,i<c.aq.length->lm c.aq i<(c.aq.getD i default).Id:=fun i hi=>(ao.lD i hi).1
 have ar:∀ (l:List cS) i,i<(l.map (aV dE)).length->(bb (l.map (aV dE)) i).length=16/\(bb (l.map (aV dE)) i).all hQ=true:=fun l i hi=>by
  rw[bY] at hi;rw[gV (aV dE) hi];exact⟨rfl,rfl⟩
 have h:=OC (P:=P) (f:=fn) (args:=args) (r:=r) (TE:=TE) (TL:=TL) (TQ:=TQ) (TB:=TB) (s:=16) (sq:=7) (c:=5) (bx:=a1 c (.own 1) (.own 2)) (nA:=a1 C (.own 3) (.own 4)) (q:=c.Queue.map aO) (sy:=C.Queue.map aO)
  (A:=c.aq.map (aV dE)) (ol:=C.aq.map (aV dE)) (R:=bV c) (fun v ak=>by
   rw[bY] at ak;have aI:=xv dE (o2 c.aq v) c.aq v (fun i hi=>by unfold o2;rw[DB ti hi,al hi]);have a7:=xv dE (o2 c.aq v) C.aq v (fun i hi=>by rw[dZ] at hi;simp at hi);rw[aI,a7]
   exact qv _ (fun id hid=>by unfold o2;rw[ah (DD ao hid)];rfl))
  (by rw[bY];exact ao.eg) (by rw[bY];rw[dZ];simp) (ar c.aq) (ar C.aq) (fun i hi=>by rw[bY] at hi;unfold bV;rw[ah (by omega)]) iT rfl
 exact h
theorem U7 (c:aG) (f:bo) (now:Int) (ad:c3 c) (ao:cK B c) (an:B<=16777216) (hf:dx f) (hs:f.Kind=28) (TB:TypeId) :
  cA Tryz.prog 63 [.ptr 0 0 0 0,.agg (aO f),I now] [(0,some (.box 116 (a1 c (.own 1) (.own 2)))),(1,some (.ch 134 16 (cM 3 c.aq))),(2,some (.row 111 7 (c.Queue.map aO))),(3,some (.row TB 1 (bV c 0))),(4,some (.row TB 1 (bV c 1))),(5,some (.row TB 1 (bV c 2))),(6,some (.row TB 1 (bV c 3)))] 7
   (I 0) [(0,some (.box 116 (a1 (mq c f.Code) (.own 7) (.own 8)))),(7,some (.ch 134 16 (cM 9 (mq c f.Code).aq))),(8,some (.row 111 7 ((mq c f.Code).Queue.map aO))),(9,some (.row TB 1 (bV c 0))),(10,some (.row TB 1 (bV c 1))),(11,some (.row TB 1 (bV c 2))),(12,some (.row TB 1 (bV c 3)))] 13:=by
 have ap:gY c f now=(mq c f.Code,0):=by
  unfold gY;rw[ah (by omega),ah (by omega),ah (by omega),ah (by omega),ah (by omega),ah (by omega),ah (by omega),ah (by omega),al hs]
 exact Zz ao rfl rfl (fun u hu=>G6 u c f now ad ao an hf hu (by omega) (mq c f.Code) 0 ap _ (.inl ⟨rfl,rfl⟩))
end
section
set_option maxRecDepth 100000
attribute [local irreducible] cE a6 bu GStep Fn cg bf cA
theorem U9 (c:aG) (f:bo) (now:Int) (ad:c3 c) (ao:cK B c) (an:B<=16777216) (hf:dx f) (hd:f.Data.length<=120) (q4:f.aP<=4611686018427387903) (hs:f.Kind≠28) (C:aG) (e:Int) (ap:gY c f now=(C,e)) (H:List (Nat×Option aT)) (bB:Nat) (hH:(e=0/\H=[(0,some (.box 116 (a1 C (.own 7) (.own 8)))),(7,some (.ch 134 16 (cM 9 C.aq))),(8,some (.row 111 7 (C.Queue.map aO))),(9,some (.row 5 1 (bV C 0))),(10,some (.row 5 1 (bV C 1))),(11,some (.row 5 1 (bV C 2))),(12,some (.row 5 1 (bV C 3)))]/\bB=13)\/(e≠0/\H=[(0,some (.box 116 (a1 C (.own 7) (.own 8))))]/\bB=9)) :
  cA Tryz.prog 63 [.ptr 0 0 0 0,.agg (aO f),I now] [(0,some (.box 116 (a1 c (.own 1) (.own 2)))),(1,some (.ch 134 16 (cM 3 c.aq))),(2,some (.row 111 7 (c.Queue.map aO))),(3,some (.row 5 1 (bV c 0))),(4,some (.row 5 1 (bV c 1))),(5,some (.row 5 1 (bV c 2))),(6,some (.row 5 1 (bV c 3)))] 7 (I e) H bB:=by
 by_cases ib:f.Kind=8
 ·have lv:=yB (now:=now) ad ao an hf hd q4;rw[ap] at lv;have ap:iU rf c f=(C,e):=by
   unfold gY at ap;rw[ah (by omega),al ib] at ap;exact ap
  have aw:=Zc c f ad ao an hf hd C e ap;have Zd:c.aq.length<=4:=ao.eg;clear ap ad ao;unfold a1 at aw ⊢;rcases hH with⟨rfl,rfl,rfl⟩ | ⟨h,rfl,rfl⟩
  ·have aw:=aw _ 13 (.inl ⟨rfl,rfl,rfl⟩);have sj:C.aq.length<=4:=(lv.2.2 rfl).eg;refine Gp bR Tryz.func63 rfl bR (by rfl) ?_;(repeat' first|(refine dL [0,1,2,3,4,5,6] (aw) (hh:=kc) (hH:=ou) (h:=?_))|(refine ay ?_;(and_intros <;> intros))|fail)
   all_goals try (exfalso;omega)
   all_goals first
    | (exact tc [(0,0),(1,1),(2,2),(3,3),(4,4),(5,5),(6,6),(8,7),(9,8),(10,9),(11,10),(12,11),(13,12)] (.refl _) ⟨b2 (.inl rfl),⟨(lI rfl lJ (fun i hi=>vU)),⟨b2 (.inl rfl),⟨b2 (.inl rfl),⟨b2 (.inl rfl),⟨b2 (.inl rfl),⟨b2 (.inl rfl),trivial⟩⟩⟩⟩⟩⟩⟩)
    | skip
  ·have aw:=aw _ 9 (.inr ⟨h,rfl,rfl⟩);refine aH Tryz.func63 ?_;(repeat' first|(refine dL [0,1,2,3,4,5,6] (aw) (hh:=kc) (hH:=HM) (h:=?_))|(refine ay ?_;(and_intros <;> intros))|fail)
   all_goals try (exfalso;omega)
   all_goals first|exact nY|skip
 ·rcases hH with⟨rfl,rfl,rfl⟩ | ⟨h,rfl,rfl⟩
  ·exact V8 c f now ad ao an hf hd q4 ib hs C ap _
  ·exact Zy c f now ad ao an hf ib C e ap h _
end
end Go.Proofs.YtendheafcbickaaGreat
