/-
  SEVERAL TEXTS IN ONE: each with its own comment.
-/
import Derived.Test.YtendheafcbickaaGreatTZip
import Derived.Test.YtendheafcbickaaGreatTGo
import Derived.Test.YtendheafcbickaaGreatTMg09
import Derived.Test.YtendheafcbickaaGreatTMg10
import Derived.Test.YtendheafcbickaaGreatTMg11
set_option linter.unusedVariables false
set_option linter.unusedSimpArgs false
set_option maxHeartbeats 16000000
namespace Go.Proofs.YtendheafcbickaaGreat
section
set_option maxRecDepth 100000
attribute [local irreducible] cq a8 bw GStep Fn cu bk
theorem p1 {n:Int}:∀ {l:List aQ} {a:Int},ed a l->(q5 n l ↔ ∀ x ∈ l,x.br<n)
 | [],a,_=>⟨fun _ x U=>(by cases U),fun _ h=>absurd h (by simp)⟩
 | [x],a,_=>⟨fun h y ai=>(by rw[List.mem_singleton] at ai;subst ai;exact h (by simp)),fun h _=>h x (by simp)⟩
 | x :: y :: r,a,h=>by
  have cf:=p1 (n:=n) (l:=y :: r) h.2.2
  have ai:=ji h.2.2 y (by simp)
  unfold b9 at ai
  have e:q5 n (x :: y :: r) ↔ q5 n (y :: r):=by
   unfold q5
   simp only[List.length_cons,Nat.add_sub_cancel,List.getD_cons_succ]
   exact⟨fun q _=>q (by omega),fun q _=>q (by omega)⟩
  rw[e,cf]
  constructor
  ·intro q z bh
   rcases List.mem_cons.1 bh with rfl|bh
   ·have:=q y (by simp);omega
   ·exact q z bh
  ·intro q z bh
   exact q z (List.mem_cons_of_mem _ bh)
theorem OF {l:List aQ} {Q:aQ->Prop}:cV (fun i=>Q (l.getD i default)) l.length ↔ ∀ x ∈ l,Q x:=by
 constructor
 ·intro h x U
  obtain ⟨i,hi,rfl⟩:=List.getElem_of_mem U
  have:=h i hi
  dsimp only at this
  rwa [List.getD_eq_getElem?_getD,List.getElem?_eq_getElem hi] at this
 ·intro h i hi
  exact h _ (cY hi)
theorem OG (s:dE):lI s ↔ (nm s/\cV (fun i=>((s.cp++s.dF).getD i default).br<s.Next) (s.cp++s.dF).length)/\y5 s.cp s.dF:=by
 have e:=OF (l:=s.cp++s.dF) (Q:=fun x=>x.br<s.Next)
 unfold lI
 constructor
 ·rintro ⟨⟨⟨I,J⟩,av⟩,bl⟩
  refine ⟨⟨I,e.2 fun x U=>?_⟩,bl⟩
  rcases List.mem_append.1 U with U|U
  ·exact(p1 (oy I.2.2.2.2.2.1)).1 J x U
  ·exact(p1 (oy I.2.2.2.2.2.2.1)).1 av x U
 ·rintro ⟨⟨I,J⟩,bl⟩
  have J:=e.1 J
  exact⟨⟨⟨I,(p1 (oy I.2.2.2.2.2.1)).2 fun x U=>J x (List.mem_append.2 (.inl U))⟩,(p1 (oy I.2.2.2.2.2.2.1)).2 fun x U=>J x (List.mem_append.2 (.inr U))⟩,bl⟩
def vO (s:dE):Prop:=s.Data.length<=600/\0<=s.Next/\s.Next<=s.Data.length/\s.Next<=s.Max/\s.Max<=4611686018427387903/\gH s.cp=0/\gH s.dF=0
theorem ug (s:dE):nm s ↔ vO s/\y6 s.Fin s.lH s.Over=true/\((s.lH || s.Over)=true->s.Next=s.Data.length):=by
 unfold nm vO
 constructor
 ·rintro ⟨a,b,c,d,e,f,g,h,i⟩;exact⟨⟨a,b,c,d,e,f,g⟩,h,i⟩
 ·rintro ⟨⟨a,b,c,d,e,f,g⟩,h,i⟩;exact⟨a,b,c,d,e,f,g,h,i⟩
theorem CR (s:dE) (hw:bR.hJ s):Fn Tryz.prog 141 [.agg (fe s)] (.lit (.int .i64 (kM s))):=by
 obtain ⟨cy,cR,w3,ef,dU,eS,fV⟩:=bR.vP s hw
 have zj:=hw.2.2.2.1
 have CS:=hw.2.2.2.2.2.1
 clear hw
 unfold aF at cR w3
 have I:=Cr s.cp dU (by omega)
 have J:=Cr s.dF fV (by omega)
 have av:=N6 s.cp s.dF (by omega) (by omega)
 clear dU fV
 refine aU ae Tryz.func141 rfl ae ?_
 refine iv ?_
 refine lb ?_
 (repeat' first|(refine ni ?_;((repeat' first|exact True.intro|refine R.mk ?_ ?_);all_goals intros))|fail "")
 refine lc ?_
 refine fG (fun ok:Bool=>⟨[(1,.ptr 0 0 0 0),(2,.lit (.int .i64 0)),(3,.lit (.bool ok))],[(0,some (.box 132 (fe s)))],1,Tryz.f141.ntmps⟩) (fun ok=>ok=true ↔ vO s) ?_ ?_
 ·unfold vO
  (repeat' first|(refine dM (cB _ _) (ht:=?_) (hff:=?_) <;> intro _ <;> try (exfalso;omega))|(refine dN (cB _ _) (ht:=?_) (hff:=?_) <;> intro _ <;> try (exfalso;omega))|(refine ar (I) (h:=?_))|(refine au (I) (h:=?_))|(refine ar (J) (h:=?_))|(refine au (J) (h:=?_))|(refine ab ?_;((repeat' first|exact True.intro|refine R.mk ?_ ?_);all_goals intros))|fail "")
  all_goals first
   | (refine ⟨true,?_,?_⟩;rotate_left 1;(exact ax);(exact vC))
   | (refine ⟨false,?_,?_⟩;rotate_left 1;(exact ax);(exact vD))
   | skip
 rintro ok bu
 clear I J
 refine fG (fun ok:Bool=>⟨[(1,.ptr 0 0 0 0),(2,.lit (.int .i64 0)),(3,.lit (.bool ok))],[(0,some (.box 132 (fe s)))],1,Tryz.f141.ntmps⟩) (fun ok=>ok=true ↔ nm s) ?_ ?_
 ·rw[ug]
  cases ok
  ·have hn:¬ vO s:=fun h=>by have:=bu.2 h;cases this
   clear bu
   (repeat' first|(refine ab ?_;((repeat' first|exact True.intro|refine R.mk ?_ ?_);all_goals intros))|fail "")
   all_goals first
    | (refine ⟨false,?_,?_⟩;rotate_left 1;(exact ax);(focus (exact⟨(fun h=>by cases h),fun h=>absurd h.1 hn⟩)))
    | skip
  ·have hn:=bu.1 rfl
   clear bu
   obtain ⟨data,fin,next,kv,lost,dK,gg,hI⟩:=s
   dsimp only at *
   cases fin <;> cases gg <;> cases hI
   all_goals (repeat' first|(refine ab ?_;((repeat' first|exact True.intro|refine R.mk ?_ ?_);all_goals intros))|fail "")
   all_goals first
    | (refine ⟨true,?_,?_⟩;rotate_left 1;(exact ax);(focus (exact⟨fun _=>⟨hn,rfl,fun h=>(by first|omega|cases h)⟩,fun _=>rfl⟩)))
    | (refine ⟨false,?_,?_⟩;rotate_left 1;(exact ax);(focus (exact⟨(fun h=>by cases h),fun h=>(by obtain ⟨_,y7,vH⟩:=h;first|(cases y7;done)|(exfalso;have vH:=vH rfl;dsimp only at *;omega))⟩)))
    | skip
 clear ok bu
 rintro ok bu
 have fW:(s.cp++s.dF).length=s.cp.length+s.dF.length:=List.length_append
 have p2:=OG s
 (repeat' first|(refine cx (r:=s.cp.map aD) ?_ ?_ ?_ ?_ (h:=?_);(exact aM);(exact al);(exact an);(exact ao))|(refine cD (r:=s.cp.map aD) ?_ ?_ ?_ ?_ (h:=?_);(exact aM);(exact al);(exact an);(exact ao))|(refine cE (r:=s.cp.map aD) ?_ ?_ ?_ ?_ (h:=?_);(exact aM);(exact al);(exact an);(exact ao))|(refine cF (r:=s.cp.map aD) ?_ ?_ ?_ ?_ (h:=?_);(exact aM);(exact al);(exact an);(exact ao))|(refine kO (r:=(s.cp++s.dF).map aD) ?_ ?_ ?_ ?_ (h:=?_);(exact nV);(exact al);(exact an);(exact ao))|(refine kP (r:=(s.cp++s.dF).map aD) ?_ ?_ ?_ ?_ (h:=?_);(exact nV);(exact al);(exact an);(exact ao))|(refine kQ (r:=(s.cp++s.dF).map aD) ?_ ?_ ?_ ?_ (h:=?_);(exact nV);(exact al);(exact an);(exact ao))|(refine kR (r:=(s.cp++s.dF).map aD) ?_ ?_ ?_ ?_ (h:=?_);(exact nV);(exact al);(exact an);(exact ao))|(refine ab ?_;((repeat' first|exact True.intro|refine R.mk ?_ ?_);all_goals intros))|fail "")
 generalize s.cp++s.dF=L at *
 refine b2 (fun x:Nat×Bool=>⟨[(1,.ptr 0 0 0 0),(2,.lit (.int .i64 0)),(3,.lit (.bool x.2)),(79,.ro (L.map aD)),(80,.lit (.int .i64 L.length)),(81,.lit (.int .i64 x.1))],[(0,some (.box 132 (fe s)))],1,Tryz.f141.ntmps⟩)
  (fun x=>x.1<=L.length/\(x.2=true ↔ nm s/\cV (fun i=>(L.getD i default).br<s.Next) x.1)) (fun x=>L.length - x.1) (0,ok) ⟨Nat.zero_le _,by rw[bu];exact⟨fun h=>⟨h,jx⟩,fun h=>h.1⟩⟩ q0 ?_
 rintro ⟨k,ok⟩ ⟨ag,hi⟩
 dsimp only at ag hi ⊢
 by_cases aJ:k<L.length
 ·have ap:=gn (Q:=fun i=>(L.getD i default).br<s.Next) (k:=k)
  cases ok
  ·have hi:¬ (nm s/\cV (fun i=>(L.getD i default).br<s.Next) k):=fun h=>by have:=hi.2 h;cases this
   (repeat' first|(refine ab ?_;((repeat' first|exact True.intro|refine R.mk ?_ ?_);all_goals intros))|fail "")
   all_goals first
    | (refine ⟨(k+1,false),?_,?_,?_⟩;rotate_left 2;(exact ax);(exact bV);(exact sk))
    | skip
  ·obtain ⟨hh,bj⟩:=hi.1 rfl
   (repeat' first|(refine ab ?_;((repeat' first|exact True.intro|refine R.mk ?_ ?_);all_goals intros))|fail "")
   all_goals first
    | (refine ⟨(k+1,true),?_,?_,?_⟩;rotate_left 2;(exact ax);(exact bV);(exact Cq))
    | (refine ⟨(k+1,false),?_,?_,?_⟩;rotate_left 2;(exact ax);(exact bV);(exact pR))
    | skip
 ·have ct:k=L.length:=by omega
  subst ct
  cases ok
  ·rw[sx (fun h=>by have:=hi.2 (p2.1 h).1;cases this)]
   (repeat' first|(refine ab ?_;((repeat' first|exact True.intro|refine R.mk ?_ ?_);all_goals intros))|fail "")
   all_goals exact bt (hr:=rfl)
  ·have hi:=hi.1 rfl
   by_cases bj:y5 s.cp s.dF
   ·rw[Cy (p2.2 ⟨hi,bj⟩)]
    rw[qZ (fun h=>h bj)] at av
    (repeat' first|(refine ar (av) (h:=?_))|(refine au (av) (h:=?_))|(refine ab ?_;((repeat' first|exact True.intro|refine R.mk ?_ ?_);all_goals intros))|fail "")
    all_goals exact bt (hr:=rfl)
   ·rw[sx (fun h=>bj (p2.1 h).2)]
    rw[nh bj] at av
    (repeat' first|(refine ar (av) (h:=?_))|(refine au (av) (h:=?_))|(refine ab ?_;((repeat' first|exact True.intro|refine R.mk ?_ ?_);all_goals intros))|fail "")
    all_goals exact bt (hr:=rfl)
end
section
set_option maxRecDepth 100000
attribute [local irreducible] cq a8 bw GStep Fn cu bk cU
theorem OH {Q:Nat->Prop}:cV Q 3 ↔ Q 0/\Q 1/\Q 2:=
 ⟨fun h=>⟨h 0 (by omega),h 1 (by omega),h 2 (by omega)⟩,fun h i hi=>by
  rcases (show i=0\/i=1\/i=2 by omega) with rfl|rfl|rfl
  ·exact h.1
  ·exact h.2.1
  ·exact h.2.2⟩
def Ht (x:Bool×Int):List V:=[.lit (.bool x.1),.lit (.int .i64 x.2)]
theorem Hu (k:Int):(hasB k).length<=4:=by
 unfold hasB
 repeat (split;decide)
 decide
theorem OI (k:Int):c6 (hasB k) 114=true ↔ k=2:=by
 rcases CC k with rfl|rfl|rfl|rfl|rfl|rfl|rfl|rfl|rfl|rfl|rfl|rfl|rfl|rfl|rfl|h
 iterate 15 decide
 rw[(y8 h).2]
 constructor
 ·intro e;cases e
 ·intro e;omega
theorem Hv (f:bc) (hw:dC f):Fn Tryz.prog 67 [.agg (aW f)] (.lit (.int .i64 (eu f))):=by
 obtain ⟨cy,cR,w3,ef,dU,eS,fV⟩:=hw
 have I:=Hi f.Kind
 have aq:=Hu f.Kind
 have g1:=sy (hasB f.Kind) 105 (by omega)
 have g2:=sy (hasB f.Kind) 111 (by omega)
 have g3:=sy (hasB f.Kind) 99 (by omega)
 have g4:=sy (hasB f.Kind) 119 (by omega)
 have g5:=sy (hasB f.Kind) 100 (by omega)
 have g6:=sy (hasB f.Kind) 102 (by omega)
 have g7:=sy (hasB f.Kind) 114 (by omega)
 have hr:=OI f.Kind
 have ht:=GQ f.bi
 unfold eu
 generalize c6 (hasB f.Kind) 105=j7 at *
 generalize c6 (hasB f.Kind) 111=j8 at *
 generalize c6 (hasB f.Kind) 99=kq at *
 generalize c6 (hasB f.Kind) 119=kJ at *
 generalize c6 (hasB f.Kind) 100=ot at *
 generalize c6 (hasB f.Kind) 102=qU at *
 generalize c6 (hasB f.Kind) 114=OJ at *
 generalize hasB f.Kind=s at *
 generalize mI f.Kind=ag at *
 generalize hq:gH f.bi.reverse=q at *
 have e:aW f=[.lit (.int .i64 f.Kind),.lit (.int .i64 f.Id),.lit (.int .i64 f.bI),.lit (.bool f.Fin),.lit (.int .i64 f.Code),.ro (f.bi.map aD),.ro (f.Data.map aC)]:=rfl
 rw[e]
 clear e
 generalize f.Fin=fin at *
 unfold aF at cy cR w3 ef
 cases ag
 ·rw[if_pos rfl]
  refine aU ae Tryz.func67 rfl ae ?_
  (repeat' first|(refine ar (I) (h:=?_))|(refine au (I) (h:=?_))|(refine ab ?_;((repeat' first|exact True.intro|refine R.mk ?_ ?_);all_goals intros))|fail "")
  all_goals exact bt (hr:=rfl)
 rw[if_neg (by simp)]
 refine aU ae Tryz.func67 rfl ae ?_
 (repeat' first|(refine ar (I) (h:=?_))|(refine au (I) (h:=?_))|(refine hB 6 ?_;((repeat' first|exact True.intro|refine R.mk ?_ ?_);all_goals intros))|fail "")
 ·refine bt (hr:=?_)
  rw[if_pos (by omega)]
 ·refine bt (hr:=?_)
  rw[if_pos (by omega)]
 rw[if_neg (by omega)]
 refine iv ?_
 refine fG (fun L:List (Bool×Int)=>⟨[(1,.ptr 0 0 0 0),(3,.lit (.string (bZ s))),(47,.ro (L.map Ht)),(48,.lit (.int .i64 3)),(49,.lit (.int .i64 0))],[(0,some (.box 111 [.lit (.int .i64 f.Kind),.lit (.int .i64 f.Id),.lit (.int .i64 f.bI),.lit (.bool fin),.lit (.int .i64 f.Code),.ro (f.bi.map aD),.ro (f.Data.map aC)]))],1,Tryz.f67.ntmps⟩) (fun L=>L=[(j7,f.Id),(j8,f.bI),(kq || kJ,f.Code)]) ?_ ?_
 ·clear dU eS fV ht hr
  cases kq
  all_goals (repeat' first|(refine ar (g1) (h:=?_))|(refine au (g1) (h:=?_))|(refine ar (g2) (h:=?_))|(refine au (g2) (h:=?_))|(refine ar (g3) (h:=?_))|(refine au (g3) (h:=?_))|(refine ar (g4) (h:=?_))|(refine au (g4) (h:=?_))|(refine ab ?_;((repeat' first|exact True.intro|refine R.mk ?_ ?_);all_goals intros))|fail "")
  all_goals first
   | (refine ⟨[(j7,f.Id),(j8,f.bI),(kJ,f.Code)],?_,?_⟩;rotate_left 1;(exact ax);(focus (rfl)))
   | (refine ⟨[(j7,f.Id),(j8,f.bI),(true,f.Code)],?_,?_⟩;rotate_left 1;(exact ax);(focus (rfl)))
 rintro L rfl
 generalize dx:[(j7,f.Id),(j8,f.bI),(kq || kJ,f.Code)]=L
 have WY:L.length=3:=by rw[<- dx];rfl
 have zk:∀ p ∈ L,-9223372036854775808<=p.2/\p.2<=9223372036854775807:=by
  rw[<- dx];intro p aw
  simp only[List.mem_cons,List.not_mem_nil,or_false] at aw
  rcases aw with rfl|rfl|rfl <;> assumption
 have ra:(¬ hA j7 f.Id \/ ¬ hA j8 f.bI \/ ¬ hA (kq || kJ) f.Code) ↔ ¬ cV (fun i=>hA (L.getD i default).1 (L.getD i default).2) 3:=by
  rw[<- dx,OH]
  show(¬ hA j7 f.Id \/ ¬ hA j8 f.bI \/ ¬ hA (kq || kJ) f.Code) ↔ ¬ (hA j7 f.Id/\hA j8 f.bI/\hA (kq || kJ) f.Code)
  by_cases aK:hA j7 f.Id <;> by_cases aX:hA j8 f.bI <;> by_cases bo:hA (kq || kJ) f.Code <;> simp[aK,aX,bo]
 have Hw:cV (fun i=>hA (L.getD i default).1 (L.getD i default).2) 3->0<=f.bI/\f.bI<=4611686018427387903:=fun h=>by
  have:=h 1 (by omega)
  rw[<- dx] at this
  exact⟨this.1,this.2.1⟩
 clear g1 g2 g3 g4
 clear dx
 (repeat' first|(refine ab ?_;((repeat' first|exact True.intro|refine R.mk ?_ ?_);all_goals intros))|fail "")
 refine b2 (fun k:Nat=>⟨[(1,.ptr 0 0 0 0),(3,.lit (.string (bZ s))),(47,.ro (L.map Ht)),(48,.lit (.int .i64 3)),(49,.lit (.int .i64 k))],[(0,some (.box 111 [.lit (.int .i64 f.Kind),.lit (.int .i64 f.Id),.lit (.int .i64 f.bI),.lit (.bool fin),.lit (.int .i64 f.Code),.ro (f.bi.map aD),.ro (f.Data.map aC)]))],1,Tryz.f67.ntmps⟩)
  (fun k=>k<=3/\cV (fun i=>hA (L.getD i default).1 (L.getD i default).2) k) (fun k=>3 - k) 0 ⟨by omega,jx⟩ gf ?_
 rintro k ⟨ag,bj⟩
 by_cases zl:k<3
 ·have zm:k<L.length:=by omega
  have OK:=zk _ (cY zm)
  have ap:=gn (Q:=fun i=>hA (L.getD i default).1 (L.getD i default).2) (k:=k)
  try dsimp only at ap
  (repeat' first|(refine hB 9 ?_;((repeat' first|exact True.intro|refine R.mk ?_ ?_);all_goals intros))|fail "")
  generalize L.getD k default=p at *
  obtain ⟨b,n⟩:=p
  dsimp only at OK
  cases b
  all_goals (repeat' first|(refine dM (cB _ _) (ht:=?_) (hff:=?_) <;> intro _ <;> try (exfalso;omega))|(refine dN (cB _ _) (ht:=?_) (hff:=?_) <;> intro _ <;> try (exfalso;omega))|(refine ab ?_;((repeat' first|exact True.intro|refine R.mk ?_ ?_);all_goals intros))|fail "")
  all_goals first
   | (refine ⟨k+1,?_,?_,?_⟩;rotate_left 2;(exact ax);(exact bN);(focus (exact⟨zl,ap.2 ⟨bj,by unfold hA;simp;omega⟩⟩)))
   | (refine bt (hr:=?_);rw[if_pos (ra.2 (fun h=>?_))];have:=(ap.1 (fun i hi=>h i (by omega))).2;unfold hA at this;simp at this;omega)
 have zl:k=3:=by omega
 subst zl
 rw[if_neg (fun h=>ra.1 h bj)]
 clear ra
 obtain ⟨fO,CT⟩:=Hw bj
 clear bj Hw zk
 (repeat' first|(refine hB 12 ?_;((repeat' first|exact True.intro|refine R.mk ?_ ?_);all_goals intros))|fail "")
 refine fG (fun _:Unit=>⟨[(1,.ptr 0 0 0 0),(3,.lit (.string (bZ s)))],[(0,some (.box 111 [.lit (.int .i64 f.Kind),.lit (.int .i64 f.Id),.lit (.int .i64 f.bI),.lit (.bool fin),.lit (.int .i64 f.Code),.ro (f.bi.map aD),.ro (f.Data.map aC)]))],1,Tryz.f67.ntmps⟩) (fun _=>¬ (ot=true/\4611686018427387903<f.bI+f.Data.length)) ?_ ?_
 ·clear eS ht hr
  cases ot
  all_goals (repeat' first|(refine ar (g5) (h:=?_))|(refine au (g5) (h:=?_))|(refine ab ?_;((repeat' first|exact True.intro|refine R.mk ?_ ?_);all_goals intros))|fail "")
  all_goals first
   | (refine bt (hr:=?_);rw[if_pos ⟨rfl,by omega⟩])
   | (refine ⟨(),?_,?_⟩;rotate_left 1;(exact ax);(focus (simp;try omega)))
 intro _ hb
 rw[if_neg hb]
 clear hb fO CT
 refine fG (fun b:Bool=>⟨[(1,.ptr 0 0 0 0),(3,.lit (.string (bZ s))),(7,.lit (.bool b))],[(0,some (.box 111 [.lit (.int .i64 f.Kind),.lit (.int .i64 f.Id),.lit (.int .i64 f.bI),.lit (.bool fin),.lit (.int .i64 f.Code),.ro (f.bi.map aD),.ro (f.Data.map aC)]))],1,Tryz.f67.ntmps⟩) (fun b=>b=true ↔ (f.Kind=2 ↔ 0<f.bi.length)) ?_ ?_
 ·cases OJ
  all_goals (repeat' first|(refine ar (g7) (h:=?_))|(refine au (g7) (h:=?_))|(refine ab ?_;((repeat' first|exact True.intro|refine R.mk ?_ ?_);all_goals intros))|fail "")
  all_goals first
   | (refine ⟨true,?_,?_⟩;rotate_left 1;(exact ax);(exact Hx))
   | (refine ⟨false,?_,?_⟩;rotate_left 1;(exact ax);(exact Hx))
 rintro ok bu
 clear hr g7
 (repeat' first|(refine ab ?_;((repeat' first|exact True.intro|refine R.mk ?_ ?_);all_goals intros))|fail "")
 refine b2 (fun x:Nat×Bool=>⟨[(1,.ptr 0 0 0 0),(3,.lit (.string (bZ s))),(7,.lit (.bool x.2)),(87,.ro (f.bi.map aD)),(88,.lit (.int .i64 f.bi.length)),(89,.lit (.int .i64 x.1))],[(0,some (.box 111 [.lit (.int .i64 f.Kind),.lit (.int .i64 f.Id),.lit (.int .i64 f.bI),.lit (.bool fin),.lit (.int .i64 f.Code),.ro (f.bi.map aD),.ro (f.Data.map aC)]))],1,Tryz.f67.ntmps⟩)
  (fun x=>x.1<=f.bi.length/\(x.2=true ↔ (f.Kind=2 ↔ 0<f.bi.length)/\cV (pL f.bi) x.1)) (fun x=>f.bi.length - x.1) (0,ok) ⟨Nat.zero_le _,by rw[bu];exact⟨fun h=>⟨h,jx⟩,fun h=>h.1⟩⟩ gf ?_
 rintro ⟨k,ok⟩ ⟨ag,hi⟩
 dsimp only at ag hi ⊢
 by_cases aJ:k<f.bi.length
 ·have ap:=gn (Q:=pL f.bi) (k:=k)
  have pS:=eS _ (cY aJ)
  unfold fz aF at pS
  clear bu eS fV cy cR w3 ef
  cases ok
  ·(repeat' first|(refine ab ?_;((repeat' first|exact True.intro|refine R.mk ?_ ?_);all_goals intros))|fail "")
   all_goals (refine ⟨(k+1,false),?_,?_,?_⟩;rotate_left 2;(exact ax);(exact bV);(focus (exact⟨aJ,(fun h=>by cases h),fun h=>by have:=hi.2 ⟨h.1,(ap.1 h.2).1⟩;cases this⟩)))
  ·have hi:=hi.1 rfl
   have tY:(k:Int) - 1=((k - 1:Nat):Int)\/k=0:=by omega
   unfold pL at ap
   have h3:∀ r:aQ,Fn Tryz.prog 144 [.agg (aD r)] (.lit (.bool (decide (0<=r.bs/\r.bs<=r.br/\r.br<=4611686018427387903)))):=Cs
   by_cases ng:k=0
   ·subst ng
    (repeat' first|(refine dM (h3 _) (ht:=?_) (hff:=?_) <;> intro _ <;> try (exfalso;omega))|(refine dN (h3 _) (ht:=?_) (hff:=?_) <;> intro _ <;> try (exfalso;omega))|(refine ab ?_;((repeat' first|exact True.intro|refine R.mk ?_ ?_);all_goals intros))|fail "")
    all_goals first
     | (refine ⟨(1,true),?_,?_,?_⟩;rotate_left 2;(exact ax);(exact bV);(focus (exact⟨aJ,fun _=>⟨hi.1,ap.2 ⟨hi.2,by unfold b9;omega,.inl rfl⟩⟩,fun _=>rfl⟩)))
     | (refine ⟨(1,false),?_,?_,?_⟩;rotate_left 2;(exact ax);(exact bV);(focus (exact⟨aJ,(fun h=>by cases h),fun h=>(by have bh:=(ap.1 h.2).2.1;unfold b9 at bh;omega)⟩)))
   ·have tY:(k:Int) - 1=((k - 1:Nat):Int):=by omega
    (repeat' first|(refine dM (h3 _) (ht:=?_) (hff:=?_) <;> intro _ <;> try (exfalso;omega))|(refine dN (h3 _) (ht:=?_) (hff:=?_) <;> intro _ <;> try (exfalso;omega))|(refine ab ?_;((repeat' first|exact True.intro|refine R.mk ?_ ?_);all_goals intros))|fail "")
    all_goals first
     | (refine ⟨(k+1,true),?_,?_,?_⟩;rotate_left 2;(exact ax);(exact bV);(focus (exact⟨aJ,fun _=>⟨hi.1,ap.2 ⟨hi.2,by unfold b9;omega,.inr (by omega)⟩⟩,fun _=>rfl⟩)))
     | (refine ⟨(k+1,false),?_,?_,?_⟩;rotate_left 2;(exact ax);(exact bV);(focus (refine ⟨aJ,(fun h=>by cases h),fun h=>?_⟩;have bh:=(ap.1 h.2).2;unfold b9 at bh;exfalso;omega)))
 ·have:k=f.bi.length:=by omega
  subst this
  rw[ht] at hi
  clear bu ht ag aJ eS cy cR w3 ef I
  cases ok
  ·have hn:¬ ((f.Kind=2 ↔ 0<f.bi.length)/\q=0):=fun h=>by have:=hi.2 h;cases this
   (repeat' first|(refine ab ?_;((repeat' first|exact True.intro|refine R.mk ?_ ?_);all_goals intros))|fail "")
   all_goals (refine bt (hr:=?_);rw[if_pos (by omega)])
  ·have hi:=hi.1 rfl
   cases ot <;> cases qU <;> cases fin
   all_goals (repeat' first|(refine ar (g5) (h:=?_))|(refine au (g5) (h:=?_))|(refine ar (g6) (h:=?_))|(refine au (g6) (h:=?_))|(refine ab ?_;((repeat' first|exact True.intro|refine R.mk ?_ ?_);all_goals intros))|fail "")
   all_goals refine bt (hr:=?_)
   all_goals simp only[reduceCtorEq,false_and,true_and,false_or,and_false,and_true,or_false,not_true_eq_false,not_false_eq_true,or_true,true_or,if_true,if_false]
   all_goals first
    | (rw[if_pos (by omega)] <;> rfl)
    | (rw[if_neg (by omega)] <;> rfl)
    | rfl
end
end Go.Proofs.YtendheafcbickaaGreat
