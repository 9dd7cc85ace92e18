/-
  SEVERAL TEXTS IN ONE: each with its own comment.
-/
import Derived.Test.YtendheafcbickaaGreatTZip
import Derived.Test.YtendheafcbickaaGreatTGo
import Derived.Test.YtendheafcbickaaGreatTMg07
import Derived.Test.YtendheafcbickaaGreatTMg11
import Derived.Test.YtendheafcbickaaGreatTMg20
import Derived.Test.YtendheafcbickaaGreatTMg13
import Derived.DeepKeys
set_option linter.unusedVariables false
set_option linter.unusedSimpArgs false
set_option maxHeartbeats 16000000
namespace Go.Proofs.YtendheafcbickaaGreat
section
set_option maxRecDepth 100000
attribute [local irreducible] cq a8 bw GStep Fn cu bk
theorem Ur (l m:List Int) (aq:l.length * 8<=140737488355328) (hm:m.length * 8<=140737488355328):Fn Tryz.prog 159 [.ro (l.map encI),.ro (m.map encI)] (.lit (.bool (yes (l=m)))):=by
 by_cases hlen:l.length=m.length
 ·refine aU ae Tryz.func159 rfl ae ?_
  (repeat' first|(refine ab ?_;((repeat' first|exact True.intro|refine R.mk ?_ ?_);all_goals intros))|fail "")
  refine b2 (fun x:Nat×Bool=>⟨[(0,.ro (l.map encI)),(1,.ro (m.map encI)),(5,.lit (.bool x.2)),(6,.lit (.int .i64 x.1))],[],0,Tryz.f159.ntmps⟩)
   (fun x=>vZ l m (l=m) x.1 x.2) (fun x=>l.length - x.1) (0,true) ⟨Nat.zero_le _,fun _=>⟨hlen,rfl⟩,fun h=>by cases h⟩ du ?_
  rintro ⟨k,ok⟩ ⟨ag,ap,hn⟩
  dsimp only at ag ap hn ⊢
  cases ok
  ·(repeat' first|(refine ab ?_;((repeat' first|exact True.intro|refine R.mk ?_ ?_);all_goals intros))|fail "")
   all_goals (refine bt (hr:=?_);exact nl (hn rfl))
  ·obtain ⟨_,ht⟩:=ap rfl
   by_cases aJ:k<l.length
   ·skip
    (repeat' first|(refine ab ?_;((repeat' first|exact True.intro|refine R.mk ?_ ?_);all_goals intros))|fail "")
    all_goals first
     | (refine ⟨(k+1,true),?_,?_,?_⟩;rotate_left 2;(exact ax);(exact bV);(exact Iu))
     | (refine ⟨(k+1,false),?_,?_,?_⟩;rotate_left 2;(exact ax);(exact bV);(exact Iy))
   ·(repeat' first|(refine ab ?_;((repeat' first|exact True.intro|refine R.mk ?_ ?_);all_goals intros))|fail "")
    all_goals (refine bt (hr:=?_);exact pV (v7 (by omega) (by omega) ht))
 ·refine aU ae Tryz.func159 rfl ae ?_
  (repeat' first|(refine ab ?_;((repeat' first|exact True.intro|refine R.mk ?_ ?_);all_goals intros))|fail "")
  refine b2 (fun _:Unit=>⟨[(5,.lit (.bool false))],[],0,Tryz.f159.ntmps⟩) (fun _=>True) (fun _=>0) () trivial du ?_
  intro _ _
  (repeat' first|(refine ab ?_;((repeat' first|exact True.intro|refine R.mk ?_ ?_);all_goals intros))|fail "")
  all_goals (refine bt (hr:=?_);exact nl (fun e=>hlen (by rw[e])))
theorem Mj (a b:bc) (bj:dC a) (hb:dC b):Fn Tryz.prog 160 [.agg (aW a),.agg (aW b)] (.lit (.bool (yes (a=b)))):=by
 have I:=zt a.bi b.bi (by have:=bj.2.2.2.2.1;omega) (by have:=hb.2.2.2.2.1;omega)
 have J:=uk a.Data b.Data
 refine aU ae Tryz.func160 rfl ae ?_
 (repeat' first|(refine r2 (I) (ht:=?_) (hff:=?_) <;> intro _ <;> try (exfalso;omega))|(refine r3 (I) (ht:=?_) (hff:=?_) <;> intro _ <;> try (exfalso;omega))|(refine r2 (J) (ht:=?_) (hff:=?_) <;> intro _ <;> try (exfalso;omega))|(refine r3 (J) (ht:=?_) (hff:=?_) <;> intro _ <;> try (exfalso;omega))|(refine ab ?_;((repeat' first|exact True.intro|refine R.mk ?_ ?_);all_goals intros))|fail "")
 all_goals (refine bt (hr:=?_))
 all_goals first
  | exact pV (Oq ca ca ca ca ca ca ca)
  | exact nl (fun e=>by subst e;first|contradiction|simp_all)
theorem F6 (l m:List bc) (aq:l.length * 88<=140737488355328) (hm:m.length * 88<=140737488355328) (wl:∀ y,y ∈ l->dC y) (F7:∀ y,y ∈ m->dC y):Fn Tryz.prog 73 [.ro (l.map aW),.ro (m.map aW)] (.lit (.bool (yes (l=m)))):=by
 by_cases hlen:l.length=m.length
 ·refine aU ae Tryz.func73 rfl ae ?_
  (repeat' first|(refine ab ?_;((repeat' first|exact True.intro|refine R.mk ?_ ?_);all_goals intros))|fail "")
  refine b2 (fun x:Nat×Bool=>⟨[(0,.ro (l.map aW)),(1,.ro (m.map aW)),(5,.lit (.bool x.2)),(6,.lit (.int .i64 x.1))],[],0,Tryz.f73.ntmps⟩)
   (fun x=>vZ l m (l=m) x.1 x.2) (fun x=>l.length - x.1) (0,true) ⟨Nat.zero_le _,fun _=>⟨hlen,rfl⟩,fun h=>by cases h⟩ du ?_
  rintro ⟨k,ok⟩ ⟨ag,ap,hn⟩
  dsimp only at ag ap hn ⊢
  cases ok
  ·(repeat' first|(refine ab ?_;((repeat' first|exact True.intro|refine R.mk ?_ ?_);all_goals intros))|fail "")
   all_goals (refine bt (hr:=?_);exact nl (hn rfl))
  ·obtain ⟨_,ht⟩:=ap rfl
   by_cases aJ:k<l.length
   ·skip
    have U:=wl _ (cY aJ)
    have ai:=F7 _ (cY (show k<m.length by omega))
    (repeat' first|(refine r2 (Mj _ _ U ai) (ht:=?_) (hff:=?_) <;> intro _ <;> try (exfalso;omega))|(refine r3 (Mj _ _ U ai) (ht:=?_) (hff:=?_) <;> intro _ <;> try (exfalso;omega))|(refine ab ?_;((repeat' first|exact True.intro|refine R.mk ?_ ?_);all_goals intros))|fail "")
    all_goals first
     | (refine ⟨(k+1,true),?_,?_,?_⟩;rotate_left 2;(exact ax);(exact bV);(exact Iu))
     | (refine ⟨(k+1,false),?_,?_,?_⟩;rotate_left 2;(exact ax);(exact bV);(exact Iy))
   ·(repeat' first|(refine ab ?_;((repeat' first|exact True.intro|refine R.mk ?_ ?_);all_goals intros))|fail "")
    all_goals (refine bt (hr:=?_);exact pV (v7 (by omega) (by omega) ht))
 ·refine aU ae Tryz.func73 rfl ae ?_
  (repeat' first|(refine ab ?_;((repeat' first|exact True.intro|refine R.mk ?_ ?_);all_goals intros))|fail "")
  refine b2 (fun _:Unit=>⟨[(5,.lit (.bool false))],[],0,Tryz.f73.ntmps⟩) (fun _=>True) (fun _=>0) () trivial du ?_
  intro _ _
  (repeat' first|(refine ab ?_;((repeat' first|exact True.intro|refine R.mk ?_ ?_);all_goals intros))|fail "")
  all_goals (refine bt (hr:=?_);exact nl (fun e=>hlen (by rw[e])))
theorem Us (l m:List eN) (aq:l.length * 48<=140737488355328) (hm:m.length * 48<=140737488355328) (wl:∀ y,y ∈ l->jg y) (F7:∀ y,y ∈ m->jg y):Fn Tryz.prog 157 [.ro (l.map bY),.ro (m.map bY)] (.lit (.bool (yes (l=m)))):=by
 by_cases hlen:l.length=m.length
 ·refine aU ae Tryz.func157 rfl ae ?_
  (repeat' first|(refine ab ?_;((repeat' first|exact True.intro|refine R.mk ?_ ?_);all_goals intros))|fail "")
  refine b2 (fun x:Nat×Bool=>⟨[(0,.ro (l.map bY)),(1,.ro (m.map bY)),(5,.lit (.bool x.2)),(6,.lit (.int .i64 x.1))],[],0,Tryz.f157.ntmps⟩)
   (fun x=>vZ l m (l=m) x.1 x.2) (fun x=>l.length - x.1) (0,true) ⟨Nat.zero_le _,fun _=>⟨hlen,rfl⟩,fun h=>by cases h⟩ du ?_
  rintro ⟨k,ok⟩ ⟨ag,ap,hn⟩
  dsimp only at ag ap hn ⊢
  cases ok
  ·(repeat' first|(refine ab ?_;((repeat' first|exact True.intro|refine R.mk ?_ ?_);all_goals intros))|fail "")
   all_goals (refine bt (hr:=?_);exact nl (hn rfl))
  ·obtain ⟨_,ht⟩:=ap rfl
   by_cases aJ:k<l.length
   ·skip
    have U:=wl _ (cY aJ)
    have ai:=F7 _ (cY (show k<m.length by omega))
    (repeat' first|(refine r2 (F6 _ _ (by have:=U.2.2.2.1;omega) (by have:=ai.2.2.2.1;omega) U.2.2.2.2 ai.2.2.2.2) (ht:=?_) (hff:=?_) <;> intro _ <;> try (exfalso;omega))|(refine r3 (F6 _ _ (by have:=U.2.2.2.1;omega) (by have:=ai.2.2.2.1;omega) U.2.2.2.2 ai.2.2.2.2) (ht:=?_) (hff:=?_) <;> intro _ <;> try (exfalso;omega))|(refine ab ?_;((repeat' first|exact True.intro|refine R.mk ?_ ?_);all_goals intros))|fail "")
    all_goals first
     | (refine ⟨(k+1,true),?_,?_,?_⟩;rotate_left 2;(exact ax);(exact bV);(focus (exact⟨aJ,fun _=>⟨hlen,zE aJ (by omega) ht (by exact Ot ca ca ca ca)⟩,fun h=>by cases h⟩)))
     | (refine ⟨(k+1,false),?_,?_,?_⟩;rotate_left 2;(exact ax);(exact bV);(focus (exact⟨aJ,fun h=>(by cases h),fun _=>Di (k:=k) (by first|exact fun e=>absurd (congrArg eN.Number e) ca|exact fun e=>absurd (congrArg eN.Time e) ca|exact fun e=>absurd (congrArg eN.fm e) ca|exact fun e=>absurd (congrArg eN.Frames e) ca)⟩)))
   ·(repeat' first|(refine ab ?_;((repeat' first|exact True.intro|refine R.mk ?_ ?_);all_goals intros))|fail "")
    all_goals (refine bt (hr:=?_);exact pV (v7 (by omega) (by omega) ht))
 ·refine aU ae Tryz.func157 rfl ae ?_
  (repeat' first|(refine ab ?_;((repeat' first|exact True.intro|refine R.mk ?_ ?_);all_goals intros))|fail "")
  refine b2 (fun _:Unit=>⟨[(5,.lit (.bool false))],[],0,Tryz.f157.ntmps⟩) (fun _=>True) (fun _=>0) () trivial du ?_
  intro _ _
  (repeat' first|(refine ab ?_;((repeat' first|exact True.intro|refine R.mk ?_ ?_);all_goals intros))|fail "")
  all_goals (refine bt (hr:=?_);exact nl (fun e=>hlen (by rw[e])))
theorem Ut (a b:c8) (bj:eF a) (hb:eF b):Fn Tryz.prog 72 [.agg (gC a),.agg (gC b)] (.lit (.bool (yes (a=b)))):=by
 have I:=zt a.cg b.cg (by have:=bj.2.2.2.2.1;omega) (by have:=hb.2.2.2.2.1;omega)
 have J:=Ur a.b7 b.b7 (by have:=bj.2.2.2.2.2.2.1;omega) (by have:=hb.2.2.2.2.2.2.1;omega)
 have av:=Us a.az b.az (by have:=bj.2.1;omega) (by have:=hb.2.1;omega) bj.2.2.1 hb.2.2.1
 refine aU ae Tryz.func72 rfl ae ?_
 (repeat' first|(refine r2 (I) (ht:=?_) (hff:=?_) <;> intro _ <;> try (exfalso;omega))|(refine r3 (I) (ht:=?_) (hff:=?_) <;> intro _ <;> try (exfalso;omega))|(refine r2 (J) (ht:=?_) (hff:=?_) <;> intro _ <;> try (exfalso;omega))|(refine r3 (J) (ht:=?_) (hff:=?_) <;> intro _ <;> try (exfalso;omega))|(refine r2 (av) (ht:=?_) (hff:=?_) <;> intro _ <;> try (exfalso;omega))|(refine r3 (av) (ht:=?_) (hff:=?_) <;> intro _ <;> try (exfalso;omega))|(refine ab ?_;((repeat' first|exact True.intro|refine R.mk ?_ ?_);all_goals intros))|fail "")
 all_goals (refine bt (hr:=?_))
 all_goals first
  | exact pV (Ou ca ca ca ca ca)
  | exact nl (fun e=>by subst e;first|contradiction|simp_all)
end
section
set_option maxRecDepth 100000
attribute [local irreducible] cq a8 bw GStep Fn cu bk cU
theorem QX (c:a6) (hw:ej c):Fn Tryz.prog 24 [.agg (e2 c),.agg (e2 c)] (.lit (.bool true)):=by
 obtain ⟨w0,cy,cR,w3,ef,dU,eS,fV,h0,ju,jf,jv,jw,k9⟩:=hw
 have I:=Ut c.bf c.bf w0 w0
 have J:=F6 c.Queue c.Queue (by omega) (by omega) jf jf
 rw[nh rfl] at I J
 have fW:c.aO.length<=1000000000000000:=by omega
 clear w0 cy cR w3 ef dU eS ju jf jv jw k9
 obtain ⟨aA,space,bp,bU,credit,ids,cH,opened,bE,b3,queue,last,cL,dw,code⟩:=c
 dsimp only at *
 generalize fX:e2 ⟨aA,space,bp,bU,credit,ids,cH,opened,bE,b3,queue,last,cL,dw,code⟩=C
 unfold e2 at fX
 dsimp only at fX
 subst fX
 refine aU ae Tryz.func24 rfl ae ?_
 refine iv ?_
 refine lb ?_
 (repeat' first|(refine ni ?_;((repeat' first|exact True.intro|refine R.mk ?_ ?_);all_goals intros))|fail "")
 refine lc ?_
 refine fG (fun _:Unit=>⟨[(2,.ptr 0 0 0 0),(3,.ptr 1 0 0 0),(5,.lit (.bool true))],[(0,some (.box 51 [.lit (.bool aA),.lit (.int .i64 space.Next),.ro (space.az.map bY),.lit (.int .i64 space.dn),.ro (space.cg.map aD),.ro (space.b7.map encI),.lit (.int .i64 bp.cK),.lit (.int .i64 bp.eE),.lit (.int .i64 bp.dW),.lit (.int .i64 bp.Since),.lit (.int .i64 bU.Max),.lit (.int .i64 bU.cm),.lit (.int .i64 credit.Max),.lit (.int .i64 credit.cm),.lit (.int .i64 ids),.lit (.int .i64 cH),.lit (.int .i64 opened),.ro (bE.map cv),.lit (.bool b3),.ro (queue.map aW),.lit (.int .i64 last),.lit (.int .i64 cL),.lit (.bool dw),.lit (.int .i64 code)])),(1,some (.box 51 [.lit (.bool aA),.lit (.int .i64 space.Next),.ro (space.az.map bY),.lit (.int .i64 space.dn),.ro (space.cg.map aD),.ro (space.b7.map encI),.lit (.int .i64 bp.cK),.lit (.int .i64 bp.eE),.lit (.int .i64 bp.dW),.lit (.int .i64 bp.Since),.lit (.int .i64 bU.Max),.lit (.int .i64 bU.cm),.lit (.int .i64 credit.Max),.lit (.int .i64 credit.cm),.lit (.int .i64 ids),.lit (.int .i64 cH),.lit (.int .i64 opened),.ro (bE.map cv),.lit (.bool b3),.ro (queue.map aW),.lit (.int .i64 last),.lit (.int .i64 cL),.lit (.bool dw),.lit (.int .i64 code)]))],2,Tryz.f24.ntmps⟩) (fun _=>True) ?_ ?_
 ·cases aA <;> cases b3 <;> cases dw
  all_goals (repeat' first|(refine ar (I) (h:=?_))|(refine au (I) (h:=?_))|(refine ar (J) (h:=?_))|(refine au (J) (h:=?_))|(refine ab ?_;((repeat' first|exact True.intro|refine R.mk ?_ ?_);all_goals intros))|fail "")
  all_goals first
   | (refine ⟨(),?_,?_⟩;rotate_left 1;(exact ax);(exact jt))
   | skip
 rintro ⟨⟩ -
 clear I J
 (repeat' first|(refine ab ?_;((repeat' first|exact True.intro|refine R.mk ?_ ?_);all_goals intros))|fail "")
 refine b2 (fun k:Nat=>⟨[(2,.ptr 0 0 0 0),(3,.ptr 1 0 0 0),(5,.lit (.bool true)),(6,.lit (.int .i64 k))],[(0,some (.box 51 [.lit (.bool aA),.lit (.int .i64 space.Next),.ro (space.az.map bY),.lit (.int .i64 space.dn),.ro (space.cg.map aD),.ro (space.b7.map encI),.lit (.int .i64 bp.cK),.lit (.int .i64 bp.eE),.lit (.int .i64 bp.dW),.lit (.int .i64 bp.Since),.lit (.int .i64 bU.Max),.lit (.int .i64 bU.cm),.lit (.int .i64 credit.Max),.lit (.int .i64 credit.cm),.lit (.int .i64 ids),.lit (.int .i64 cH),.lit (.int .i64 opened),.ro (bE.map cv),.lit (.bool b3),.ro (queue.map aW),.lit (.int .i64 last),.lit (.int .i64 cL),.lit (.bool dw),.lit (.int .i64 code)])),(1,some (.box 51 [.lit (.bool aA),.lit (.int .i64 space.Next),.ro (space.az.map bY),.lit (.int .i64 space.dn),.ro (space.cg.map aD),.ro (space.b7.map encI),.lit (.int .i64 bp.cK),.lit (.int .i64 bp.eE),.lit (.int .i64 bp.dW),.lit (.int .i64 bp.Since),.lit (.int .i64 bU.Max),.lit (.int .i64 bU.cm),.lit (.int .i64 credit.Max),.lit (.int .i64 credit.cm),.lit (.int .i64 ids),.lit (.int .i64 cH),.lit (.int .i64 opened),.ro (bE.map cv),.lit (.bool b3),.ro (queue.map aW),.lit (.int .i64 last),.lit (.int .i64 cL),.lit (.bool dw),.lit (.int .i64 code)]))],2,Tryz.f24.ntmps⟩)
  (fun k=>k<=bE.length) (fun k=>bE.length - k) 0 (Nat.zero_le _) gf ?_
 intro k ag
 by_cases aJ:k<bE.length
 ·have hf:=h0 _ (cY aJ)
  have aT:=hf.2.2.2.2.2.2.1
  have a1:=hf.2.2.2.2.2.2.2.2.1
  have I:=Uu _ _ hf.2.1 hf.2.1
  have J:=uk (bE.getD k default).Read (bE.getD k default).Read
  have av:=O2 (bE.getD k default).Out aT a1
  rw[nh rfl] at I J
  clear hf h0
  cases sn:(bE.getD k default).Over <;> cases nk:(bE.getD k default).Cut
  all_goals (repeat' first|(refine ar (I) (h:=?_))|(refine au (I) (h:=?_))|(refine ar (J) (h:=?_))|(refine au (J) (h:=?_))|(refine ar (av) (h:=?_))|(refine au (av) (h:=?_))|(refine ab ?_;((repeat' first|exact True.intro|refine R.mk ?_ ?_);all_goals intros))|fail "")
  all_goals first
   | (refine ⟨k+1,?_,?_,?_⟩;rotate_left 2;(exact ax);(exact bN);(exact gI))
   | skip
 ·have ct:k=bE.length:=by omega
  subst ct
  (repeat' first|(refine ab ?_;((repeat' first|exact True.intro|refine R.mk ?_ ?_);all_goals intros))|fail "")
  all_goals exact bt (hr:=rfl)
end
section
open Go.RowKit
theorem Mk {ρ:Nat->Option Value} {S:Nat->Prop} {w:World} {us:List Value} {u:Value} (h:cC ρ S w (.agg (us.map V.lit)) u):u = .agg us.toArray:=by
 obtain ⟨vs,rfl,aN,bS⟩:=x3 h
 congr 1
 rw[List.length_map] at aN bS
 refine Array.ext (by simpa using aN) (fun i I J=>?_)
 have av:=bS i (by omega)
 have e:bx (us.map V.lit) i = .lit (us[i]'(by omega)):=by unfold bx;rw[List.getD_eq_getElem?_getD,List.getElem?_map,List.getElem?_eq_getElem (by omega)];rfl
 rw[e] at av
 have bl:=ff av
 rw[Array.getD_eq_getD_getElem?,Array.getElem?_eq_getElem I] at bl
 simpa using bl
theorem QW {P:Program} {G:List Nat} {o:Oper} {st:ba} {T cA:TypeId} {x y:Operand} {us:List Value} {la:List Lit} (aa:o.op = .binOp .eql T x y cA) (U:aI st.env x=some (.agg (us.map V.lit))) (ai:aI st.env y=some (.agg (us.map V.lit)))
  (hm:P.eqGuardType P.depth T=false) (ag:P.keyTypeAt 5 T=true) (hf:(Value.agg us.toArray).formed P T=true) (aq:P.keyLits 5 T us=some la):bw P G o st (.lit (.bool true)):=
 hs fun F base w0 ρ a w ak ay=>by
  refine ⟨_,.pure (.lit _ rfl),fun aE=>?_⟩
  have aH:=Mk (c0 ay U)
  have aN:=Mk (c0 ay ai)
  unfold execOp;rw[aa];simp only[];rw[aH,aN]
  have I:=run_eqGuard_agg (P:=P) aE .eql T x y us.toArray us.toArray hm
  have J:=run_eql_struct (P:=P) aE T us.toArray us.toArray
  obtain ⟨r,hr,p2⟩:=run_equalIn_deep 9995 5 T ag aE 5 5 (.agg us.toArray) (.agg us.toArray) la la hf hf (by simpa[Value.cells] using aq) (by simpa[Value.cells] using aq)
  rw[show(10000:Nat)=9995+5 from rfl,hr,p2.2 rfl] at J
  simp only[Sem.run_bind,I,Result.andThen_ok,J,Sem.run_pure]
end
end Go.Proofs.YtendheafcbickaaGreat
