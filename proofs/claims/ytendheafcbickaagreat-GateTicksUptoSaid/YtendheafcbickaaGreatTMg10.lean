/-
  SEVERAL TEXTS IN ONE: each with its own comment.
-/
import Derived.Test.YtendheafcbickaaGreatTZip
import Derived.Test.YtendheafcbickaaGreatTGo
import Derived.Test.YtendheafcbickaaGreatTMg09
import Derived.Test.YtendheafcbickaaGreatTMg06
import Derived.Test.YtendheafcbickaaGreatTMg07
set_option linter.unusedVariables false
set_option linter.unusedSimpArgs false
set_option maxHeartbeats 16000000
namespace Go.Proofs.YtendheafcbickaaGreat
section
set_option maxRecDepth 100000
attribute [local irreducible] cq a8 bw GStep Fn cu bk cU
def hA (b:Bool) (n:Int):Prop:=0<=n/\n<=4611686018427387903/\(b=true\/n=0)
instance (b:Bool) (n:Int):Decidable (hA b n):=inferInstanceAs (Decidable (_/\_))
def pL (l:List aQ) (i:Nat):Prop:=b9 (l.getD i default)/\(i=0\/(l.getD i default).br+1<(l.getD (i - 1) default).bs)
def eu (f:bc):Int:=
 if mI f.Kind=false then 2 else if 120<f.Data.length\/6<f.bi.length then 1
 else if ¬ hA (c6 (hasB f.Kind) 105) f.Id \/ ¬ hA (c6 (hasB f.Kind) 111) f.bI \/ ¬ hA (c6 (hasB f.Kind) 99 || c6 (hasB f.Kind) 119) f.Code then 6
 else if c6 (hasB f.Kind) 100=true/\4611686018427387903<f.bI+f.Data.length then 6
 else if (c6 (hasB f.Kind) 100=false/\0<f.Data.length)\/(c6 (hasB f.Kind) 102=false/\f.Fin=true) \/ ¬ (f.Kind=2 ↔ 0<f.bi.length)\/gH f.bi.reverse≠0 then 3 else 0
theorem NN {r:aQ}:∀ {l:List aQ} {a:Int},ed a (l++[r]) ↔ ed a l/\b9 r/\a+2<=r.bs /\ ∀ x ∈ l,x.br+2<=r.bs:=by
 intro l
 induction l with
 | nil=>intro a;simp[ed]
 | cons y l cf=>
  intro a
  simp only[List.cons_append,ed,cf,List.mem_cons]
  constructor
  ·rintro ⟨I,J,av,bl,dm,fr⟩
   refine ⟨⟨I,J,av⟩,bl,?_,?_⟩
   ·unfold b9 at I;omega
   ·rintro x (rfl|U)
    ·exact dm
    ·exact fr x U
  ·rintro ⟨⟨I,J,av⟩,bl,dm,fr⟩
   exact⟨I,J,av,bl,fr y (.inl rfl),fun x U=>fr x (.inr U)⟩
def qY:List aQ->Prop
 | []=>True
 | [r]=>b9 r
 | r :: x :: l=>b9 r/\x.br+2<=r.bs/\qY (x :: l)
theorem G0 {r:aQ}:∀ {l:List aQ},qY (r :: l) -> ∀ x ∈ l,x.br+2<=r.bs:=by
 intro l
 induction l generalizing r with
 | nil=>intro _ x U;cases U
 | cons y l cf=>
  intro h x U
  rcases List.mem_cons.1 U with rfl|U
  ·exact h.2.1
  ·have I:=cf h.2.2 x U
   have J:b9 y:=by
    have:=h.2.2
    cases l with
    | nil=>exact this
    | cons _ _=>exact this.1
   have:=h.2.1
   unfold b9 at J
   omega
theorem NO:∀ {l:List aQ},qY l ↔ ed (-2) l.reverse:=by
  intro l
  induction l with
  | nil=>simp[qY,ed]
  | cons r l cf=>
    rw[List.reverse_cons,NN,<- cf]
    cases l with
    | nil => simp only [qY, List.reverse_nil, List.not_mem_nil, false_implies, implies_true, and_true, true_and]; constructor
             · intro h;refine ⟨h,?_⟩;unfold b9 at h;omega
             · intro h;exact h.1
    | cons x l=>
      constructor
      · intro h
        have I:b9 r:=h.1
        refine ⟨h.2.2,I,?_,fun y ai=>G0 h y (List.mem_reverse.1 ai)⟩
        unfold b9 at I;omega
      · rintro ⟨I,J,av,bl⟩
        exact⟨J,bl x (by simp),I⟩
theorem NP (l:List aQ):cV (pL l) l.length ↔ qY l:=by
 induction l with
 | nil=>simp[qY,cV]
 | cons r l cf=>
  have ap:∀ i,pL (r :: l) (i+1) ↔ b9 (l.getD i default)/\(l.getD i default).br+1<((r :: l).getD i default).bs:=fun i=>by
   unfold pL;simp
  constructor
  ·intro h
   have af:=h 0 (by simp)
   have yX:b9 r:=af.1
   have ht:cV (pL l) l.length:=fun i hi=>by
    have:=(ap i).1 (h (i+1) (by simpa using hi))
    refine ⟨this.1,?_⟩
    by_cases NQ:i=0
    ·exact .inl NQ
    ·refine .inr ?_
     have J:=this.2
     obtain ⟨j,rfl⟩:∃ j,i=j+1:=⟨i - 1,by omega⟩
     simpa using J
   have hd:=cf.1 ht
   cases l with
   | nil=>exact yX
   | cons x l=>
    have:=(ap 0).1 (h 1 (by simp))
    exact⟨yX,by have:=this.2;simp at this;omega,hd⟩
  ·intro h
   have yX:b9 r:=by cases l with
    | nil=>exact h
    | cons _ _=>exact h.1
   have hd:qY l:=by cases l with
    | nil=>trivial
    | cons _ _=>exact h.2.2
   have ht:=cf.2 hd
   intro i hi
   cases i with
   | zero=>exact⟨yX,.inl rfl⟩
   | succ i=>
    have ou:i<l.length:=by simpa using hi
    refine (ap i).2 ⟨(ht i ou).1,?_⟩
    have:=G0 h _ (cY ou)
    cases i with
    | zero=>simp at *;omega
    | succ j=>
     have av:=(ht (j+1) ou).2
     rcases av with av|av
     ·omega
     ·simpa using av
theorem GQ (l:List aQ):cV (pL l) l.length ↔ gH l.reverse=0:=by
 rw[NP,NO]
 unfold gH
 split
 ·simp[*]
 ·simp[*]
theorem yR (f:bc) (hw:dC f):Fn Tryz.prog 59 [.agg (aW f)] (.lit (.int .i64 (eu f))):=by
 obtain ⟨cy,cR,w3,ef,dU,eS,fV⟩:=hw
 have I:=GU f.Kind
 have J:=NR f.bi eS dU
 unfold eu
 unfold Ca at I
 unfold aF at *
 generalize c6 (hasB f.Kind) 105=hi at *
 generalize c6 (hasB f.Kind) 111=aa at *
 generalize (c6 (hasB f.Kind) 99 || c6 (hasB f.Kind) 119)=hc at *
 generalize c6 (hasB f.Kind) 100=hd at *
 generalize c6 (hasB f.Kind) 102=hf at *
 generalize c6 (hasB f.Kind) 119=U at *
 generalize mI f.Kind=ag at *
 generalize gH f.bi.reverse=q at *
 have e:aW f=[.lit (.int .i64 f.Kind),.lit (.int .i64 f.Id),.lit (.int .i64 f.bI),.lit (.bool f.Fin),.lit (.int .i64 f.Code),.ro (f.bi.map aD),.ro (f.Data.map aC)]:=rfl
 rw[e]
 generalize f.Fin=fin
 cases ag
 ·rw[if_pos rfl]
  refine aU ae Tryz.func59 rfl ae ?_
  (repeat' first|(refine ar (I) (h:=?_))|(refine au (I) (h:=?_))|(refine ab ?_;((repeat' first|exact True.intro|refine R.mk ?_ ?_);all_goals intros))|fail "")
  all_goals exact bt (hr:=rfl)
 ·rw[if_neg (by simp)]
  refine aU ae Tryz.func59 rfl ae ?_
  (repeat' first|(refine ar (I) (h:=?_))|(refine au (I) (h:=?_))|(refine dM (G1 _ _) (ht:=?_) (hff:=?_) <;> intro _ <;> try (exfalso;omega))|(refine dN (G1 _ _) (ht:=?_) (hff:=?_) <;> intro _ <;> try (exfalso;omega))|(refine hB 8 ?_;((repeat' first|exact True.intro|refine R.mk ?_ ?_);all_goals intros))|fail "")
  ·refine bt (hr:=?_)
   rw[if_pos (by omega)]
  ·refine bt (hr:=?_)
   rw[if_pos (by omega)]
  all_goals first
   | (refine bt (hr:=?_);rw[if_neg (by omega),if_pos (by first|exact .inl ca|exact .inr (.inl ca)|exact .inr (.inr ca))])
   | skip
  rw[if_neg (by omega),if_neg (by rintro (h|h|h) <;> exact h ca)]
  have g3:hA aa f.bI:=by assumption
  unfold hA at g3
  have g4:=g3.1
  have g5:=g3.2.1
  cases hd <;> cases hf <;> cases fin
  all_goals (repeat' first|(refine dM (J) (ht:=?_) (hff:=?_) <;> intro _ <;> try (exfalso;omega))|(refine dN (J) (ht:=?_) (hff:=?_) <;> intro _ <;> try (exfalso;omega))|(refine ab ?_;((repeat' first|exact True.intro|refine R.mk ?_ ?_);all_goals intros))|fail "")
  all_goals refine bt (hr:=?_)
  all_goals simp only[reduceCtorEq,false_and,true_and,false_or,and_false,and_true,or_false,not_true_eq_false,not_false_eq_true,or_true,true_or,if_true,if_false]
  all_goals first
   | (rw[if_pos (by omega)] <;> rfl)
   | (rw[if_neg (by omega)] <;> rfl)
   | (rw[if_neg (by omega),if_pos (by omega)] <;> rfl)
   | (rw[if_neg (by omega),if_neg (by omega)] <;> rfl)
   | rfl
def lA (c:a6):Prop:=hZ c.bf=0/\pP c.e8=0/\o0 c.fL=0/\o0 c.fQ=0
def iR (c:a6):Prop:=0<=c.ks/\c.ks<=4611686018427387903/\0<=c.kK/\c.kK<=4611686018427387903/\0<=c.gJ/\(c.gJ<=c.ks\/c.gJ<=c.kK)/\c.aO.length<=4/\c.Queue.length<=12/\0<=c.jO/\c.jO<=1099511627776/\0<=c.kL/\c.kL<=4
def mJ (l:List dV) (i:Nat):Int:=if i=0 then -1 else(l.getD (i - 1) default).Id
theorem yY (l:List dV):mJ l 0 = -1:=rfl
theorem yZ (l:List dV) (i:Nat):mJ l (i+1)=(l.getD i default).Id:=by
 unfold mJ
 rw[if_neg (by omega),Nat.add_sub_cancel]
def lB (c:a6) (i:Nat):Prop:=mJ c.aO i<(c.aO.getD i default).Id/\(c.aO.getD i default).Id<c.gJ/\jP (c.aO.getD i default).In=0/\kM (c.aO.getD i default).Out=0/\(c.aO.getD i default).Read.length<=800
def nQ (l:List bc) (n:Nat):Prop:=cV (fun i=>eu (l.getD i default)=0) n
def pQ (c:a6):Prop:=(((lA c/\iR c)/\cV (lB c) c.aO.length)/\nQ c.Queue c.Queue.length)/\cV (fun i=>nQ (c.bf.az.getD i default).Frames (c.bf.az.getD i default).Frames.length) c.bf.az.length
noncomputable def l0 (c:a6):Int:=if yes (pQ c)=true then 0 else 9
theorem Ci {c:a6} (h:pQ c):l0 c=0:=if_pos (nh h)
theorem Cj {c:a6} (h:¬ pQ c):l0 c=9:=if_neg (by rw[qZ h];exact Bool.false_ne_true)
theorem tZ (c:a6):(l0 c=0/\pQ c)\/(l0 c=9 /\ ¬ pQ c):=by
 by_cases h:pQ c
 ·exact .inl ⟨Ci h,h⟩
 ·exact .inr ⟨Cj h,h⟩
theorem Ck (c:a6) (hw:ej c):Fn Tryz.prog 58 [.agg (e2 c)] (.lit (.int .i64 (l0 c))):=by
 obtain ⟨w0,cy,cR,w3,ef,dU,eS,fV,h0,ju,jf,jv,jw,k9⟩:=hw
 have iw:c.bf.az.length<=1000000000000000:=by have:=w0.2.1;omega
 have lC:∀ y,y ∈ c.bf.az->jg y:=w0.2.2.1
 have I:=vB c.bf w0
 have J:=Cl c.e8
 have av:=Cm c.fL
 have bl:=Cm c.fQ
 clear w0 cy cR w3
 unfold aF at ef dU eS jv jw k9
 refine aU ae Tryz.func58 rfl ae ?_
 refine iv ?_
 refine lb ?_
 (repeat' first|(refine ni ?_;((repeat' first|exact True.intro|refine R.mk ?_ ?_);all_goals intros))|fail "")
 refine lc ?_
 refine fG (fun ok:Bool=>⟨[(1,.ptr 0 0 0 0),(2,.lit (.int .i64 0)),(3,.lit (.bool ok))],[(0,some (.box 51 (e2 c)))],1,Tryz.f58.ntmps⟩) (fun ok=>ok=true ↔ lA c) ?_ ?_
 ·unfold lA
  (repeat' first|(refine ar (I) (h:=?_))|(refine au (I) (h:=?_))|(refine ar (J) (h:=?_))|(refine au (J) (h:=?_))|(refine ar (av) (h:=?_))|(refine au (av) (h:=?_))|(refine ar (bl) (h:=?_))|(refine au (bl) (h:=?_))|(refine ab ?_;((repeat' first|exact True.intro|refine R.mk ?_ ?_);all_goals intros))|fail "")
  all_goals first
   | (refine ⟨true,?_,?_⟩;rotate_left 1;(exact ax);(exact vC))
   | (refine ⟨false,?_,?_⟩;rotate_left 1;(exact ax);(exact vD))
   | skip
 rintro ok bu
 clear I J av bl
 refine fG (fun ok:Bool=>⟨[(1,.ptr 0 0 0 0),(2,.lit (.int .i64 0)),(3,.lit (.bool ok))],[(0,some (.box 51 (e2 c)))],1,Tryz.f58.ntmps⟩) (fun ok=>ok=true ↔ lA c/\iR c) ?_ ?_
 ·unfold iR
  cases ok
  ·have hn:¬ lA c:=fun h=>by have:=bu.2 h;cases this
   clear bu
   (repeat' first|(refine ab ?_;((repeat' first|exact True.intro|refine R.mk ?_ ?_);all_goals intros))|fail "")
   all_goals first
    | (refine ⟨false,?_,?_⟩;rotate_left 1;(exact ax);(focus (exact⟨(fun h=>by cases h),fun h=>absurd h.1 hn⟩)))
    | skip
  ·have hn:=bu.1 rfl
   clear bu
   (repeat' first|(refine ab ?_;((repeat' first|exact True.intro|refine R.mk ?_ ?_);all_goals intros))|fail "")
   all_goals first
    | (refine ⟨true,?_,?_⟩;rotate_left 1;(exact ax);(focus (exact⟨fun _=>⟨hn,by omega⟩,fun _=>rfl⟩)))
    | (refine ⟨false,?_,?_⟩;rotate_left 1;(exact ax);(focus (exact⟨(fun h=>by cases h),fun h=>(by have:=h.2;omega)⟩)))
    | skip
 clear ok bu ef dU eS jv jw k9
 rintro ok bu
 have fW:c.aO.length<=1000000000000000:=by omega
 have sj:c.Queue.length<=1000000000000000:=by omega
 clear fV ju
 (repeat' first|(refine ab ?_;((repeat' first|exact True.intro|refine R.mk ?_ ?_);all_goals intros))|fail "")
 refine b2 (fun x:Nat×Bool=>⟨[(1,.ptr 0 0 0 0),(2,.lit (.int .i64 0)),(3,.lit (.bool x.2)),(4,.lit (.int .i64 (mJ c.aO x.1))),(104,.ro (c.aO.map cv)),(105,.lit (.int .i64 c.aO.length)),(106,.lit (.int .i64 x.1))],[(0,some (.box 51 (e2 c)))],1,Tryz.f58.ntmps⟩)
  (fun x=>x.1<=c.aO.length/\(x.2=true ↔ (lA c/\iR c)/\cV (lB c) x.1)) (fun x=>c.aO.length - x.1) (0,ok) ⟨Nat.zero_le _,by rw[bu];exact⟨fun h=>⟨h,jx⟩,fun h=>h.1⟩⟩ (by(try dsimp only);rw[yY];(exact ax)) ?_
 clear ok bu
 rintro ⟨k,ok⟩ ⟨ag,hi⟩
 dsimp only at ag hi ⊢
 by_cases aJ:k<c.aO.length
 ·have ap:=gn (Q:=lB c) (k:=k)
  have aw:=yZ c.aO k
  have l1:=h0 _ (cY aJ)
  have I:=NS _ l1.2.1
  have J:=Cn _ l1.2.2.2
  have NT:=l1.2.2.1
  cases ok
  ·have hi:¬ ((lA c/\iR c)/\cV (lB c) k):=fun h=>by have:=hi.2 h;cases this
   generalize mJ c.aO k=Co
   (repeat' first|(refine ab ?_;((repeat' first|exact True.intro|refine R.mk ?_ ?_);all_goals intros))|fail "")
   all_goals first
    | (refine ⟨(k+1,false),?_,?_,?_⟩;rotate_left 2;(exact ax);(exact bV);(exact sk))
    | skip
  ·obtain ⟨hh,bj⟩:=hi.1 rfl
   unfold lB at ap
   generalize mJ c.aO k=Co at *
   (repeat' first|(refine ar (I) (h:=?_))|(refine au (I) (h:=?_))|(refine ar (J) (h:=?_))|(refine au (J) (h:=?_))|(refine ab ?_;((repeat' first|exact True.intro|refine R.mk ?_ ?_);all_goals intros))|fail "")
   all_goals first
    | (refine ⟨(k+1,true),?_,?_,?_⟩;rotate_left 2;(exact ax);(exact bV);(exact Cp))
    | (refine ⟨(k+1,false),?_,?_,?_⟩;rotate_left 2;(exact ax);(exact bV);(exact pR))
    | skip
 have ct:k=c.aO.length:=by omega
 subst ct
 clear h0 aJ ag
 (repeat' first|(refine ab ?_;((repeat' first|exact True.intro|refine R.mk ?_ ?_);all_goals intros))|fail "")
 refine b2 (fun x:Nat×Bool=>⟨[(1,.ptr 0 0 0 0),(2,.lit (.int .i64 0)),(3,.lit (.bool x.2)),(146,.ro (c.Queue.map aW)),(147,.lit (.int .i64 c.Queue.length)),(148,.lit (.int .i64 x.1))],[(0,some (.box 51 (e2 c)))],1,Tryz.f58.ntmps⟩)
  (fun x=>x.1<=c.Queue.length/\(x.2=true ↔ ((lA c/\iR c)/\cV (lB c) c.aO.length)/\nQ c.Queue x.1)) (fun x=>c.Queue.length - x.1) (0,ok) ⟨Nat.zero_le _,by rw[hi];exact⟨fun h=>⟨h,jx⟩,fun h=>h.1⟩⟩ q0 ?_
 clear ok hi
 rintro ⟨k,ok⟩ ⟨ag,hi⟩
 dsimp only at ag hi ⊢
 by_cases aJ:k<c.Queue.length
 ·have ap:=gn (Q:=fun i=>eu (c.Queue.getD i default)=0) (k:=k)
  have I:=yR _ (jf _ (cY aJ))
  unfold nQ at hi
  cases ok
  ·have hi:¬ (((lA c/\iR c)/\cV (lB c) c.aO.length)/\cV (fun i=>eu (c.Queue.getD i default)=0) k):=fun h=>by have:=hi.2 h;cases this
   (repeat' first|(refine ab ?_;((repeat' first|exact True.intro|refine R.mk ?_ ?_);all_goals intros))|fail "")
   all_goals first
    | (refine ⟨(k+1,false),?_,?_,?_⟩;rotate_left 2;(exact ax);(exact bV);(exact sk))
    | skip
  ·obtain ⟨hh,bj⟩:=hi.1 rfl
   (repeat' first|(refine ar (I) (h:=?_))|(refine au (I) (h:=?_))|(refine ab ?_;((repeat' first|exact True.intro|refine R.mk ?_ ?_);all_goals intros))|fail "")
   all_goals first
    | (refine ⟨(k+1,true),?_,?_,?_⟩;rotate_left 2;(exact ax);(exact bV);(exact Cq))
    | (refine ⟨(k+1,false),?_,?_,?_⟩;rotate_left 2;(exact ax);(exact bV);(exact pR))
    | skip
 have ct:k=c.Queue.length:=by omega
 subst ct
 clear jf aJ ag
 (repeat' first|(refine ab ?_;((repeat' first|exact True.intro|refine R.mk ?_ ?_);all_goals intros))|fail "")
 generalize aB:(((lA c/\iR c)/\cV (lB c) c.aO.length)/\nQ c.Queue c.Queue.length)=B at hi
 refine b2 (fun x:Nat×Bool=>⟨[(2,.lit (.int .i64 0)),(3,.lit (.bool x.2)),(161,.ro (c.bf.az.map bY)),(162,.lit (.int .i64 c.bf.az.length)),(163,.lit (.int .i64 x.1))],[],0,Tryz.f58.ntmps⟩)
  (fun x=>x.1<=c.bf.az.length/\(x.2=true ↔ B/\cV (fun i=>nQ (c.bf.az.getD i default).Frames (c.bf.az.getD i default).Frames.length) x.1)) (fun x=>c.bf.az.length - x.1) (0,ok) ⟨Nat.zero_le _,by rw[hi];exact⟨fun h=>⟨h,jx⟩,fun h=>h.1⟩⟩ q0 ?_
 clear ok hi
 rintro ⟨k,ok⟩ ⟨ag,hi⟩
 dsimp only at ag hi ⊢
 by_cases aJ:k<c.bf.az.length
 ·have ap:=gn (Q:=fun i=>nQ (c.bf.az.getD i default).Frames (c.bf.az.getD i default).Frames.length) (k:=k)
  have nj:=lC _ (cY aJ)
  clear lC
  obtain ⟨dD,c7,fb,iS,cT⟩:=nj
  have ix:(c.bf.az.getD k default).Frames.length<=1000000000000000:=by omega
  (repeat' first|(refine ab ?_;((repeat' first|exact True.intro|refine R.mk ?_ ?_);all_goals intros))|fail "")
  refine b2 (fun x:Nat×Bool=>⟨[(2,.lit (.int .i64 0)),(3,.lit (.bool x.2)),(161,.ro (c.bf.az.map bY)),(162,.lit (.int .i64 c.bf.az.length)),(163,.lit (.int .i64 k)),(168,.ro ((c.bf.az.getD k default).Frames.map aW)),(169,.lit (.int .i64 (c.bf.az.getD k default).Frames.length)),(170,.lit (.int .i64 x.1))],[],0,Tryz.f58.ntmps⟩)
   (fun x=>x.1<=(c.bf.az.getD k default).Frames.length/\(x.2=true ↔ (B/\cV (fun i=>nQ (c.bf.az.getD i default).Frames (c.bf.az.getD i default).Frames.length) k)/\nQ (c.bf.az.getD k default).Frames x.1)) (fun x=>(c.bf.az.getD k default).Frames.length - x.1) (0,ok) ⟨Nat.zero_le _,by rw[hi];exact⟨fun h=>⟨h,jx⟩,fun h=>h.1⟩⟩ q0 ?_
  clear ok hi
  rintro ⟨j,ok⟩ ⟨ah,hi⟩
  dsimp only at ah hi ⊢
  by_cases jy:j<(c.bf.az.getD k default).Frames.length
  ·have ap:=gn (Q:=fun i=>eu ((c.bf.az.getD k default).Frames.getD i default)=0) (k:=j)
   have I:=yR _ (cT _ (cY jy))
   unfold nQ at hi
   cases ok
   ·have hi:¬ ((B/\cV (fun i=>nQ (c.bf.az.getD i default).Frames (c.bf.az.getD i default).Frames.length) k)/\cV (fun i=>eu ((c.bf.az.getD k default).Frames.getD i default)=0) j):=fun h=>by have:=hi.2 h;cases this
    (repeat' first|(refine ab ?_;((repeat' first|exact True.intro|refine R.mk ?_ ?_);all_goals intros))|fail "")
    all_goals first
     | (refine ⟨(j+1,false),?_,?_,?_⟩;rotate_left 2;(exact ax);(exact bV);(focus (exact⟨jy,(fun h=>by cases h),fun h=>absurd ⟨h.1,(ap.1 h.2).1⟩ hi⟩)))
     | skip
   ·obtain ⟨hh,bj⟩:=hi.1 rfl
    (repeat' first|(refine ar (I) (h:=?_))|(refine au (I) (h:=?_))|(refine ab ?_;((repeat' first|exact True.intro|refine R.mk ?_ ?_);all_goals intros))|fail "")
    all_goals first
     | (refine ⟨(j+1,true),?_,?_,?_⟩;rotate_left 2;(exact ax);(exact bV);(focus (exact⟨jy,fun _=>⟨hh,ap.2 ⟨bj,by assumption⟩⟩,fun _=>rfl⟩)))
     | (refine ⟨(j+1,false),?_,?_,?_⟩;rotate_left 2;(exact ax);(exact bV);(focus (exact⟨jy,(fun h=>by cases h),fun h=>(by have J:=(ap.1 h.2).2;(try dsimp only at J);omega)⟩)))
     | skip
  have sm:j=(c.bf.az.getD k default).Frames.length:=by omega
  subst sm
  (repeat' first|(refine ab ?_;((repeat' first|exact True.intro|refine R.mk ?_ ?_);all_goals intros))|fail "")
  all_goals first
   | (refine ⟨(k+1,ok),?_,?_,?_⟩;rotate_left 2;(exact ax);(exact bV);(focus (exact⟨aJ,by rw[hi,ap];exact⟨fun h=>⟨h.1.1,h.1.2,h.2⟩,fun h=>⟨⟨h.1,h.2.1⟩,h.2.2⟩⟩⟩)))
   | skip
 have ct:k=c.bf.az.length:=by omega
 subst ct
 subst aB
 cases ok
 ·rw[Cj (fun h=>by have:=hi.2 h;cases this)]
  (repeat' first|(refine ab ?_;((repeat' first|exact True.intro|refine R.mk ?_ ?_);all_goals intros))|fail "")
  all_goals exact bt (hr:=rfl)
 ·rw[Ci (hi.1 rfl)]
  (repeat' first|(refine ab ?_;((repeat' first|exact True.intro|refine R.mk ?_ ?_);all_goals intros))|fail "")
  all_goals exact bt (hr:=rfl)
end
section
set_option maxRecDepth 100000
attribute [local irreducible] cq a8 bw GStep Fn cu bk
theorem Cr (l:List aQ) (hw:∀ y,y ∈ l->fz y) (aq:l.length * 16<=140737488355312):Fn Tryz.prog 253 [.ro (l.map aD)] (.lit (.int .i64 (gH l))):=by
 refine aU ae Tryz.func253 rfl ae ?_
 (repeat' first|(refine ab ?_;((repeat' first|exact True.intro|refine R.mk ?_ ?_);all_goals intros))|fail "")
 refine b2 (fun k:Nat=>⟨[(0,.ro (l.map aD)),(6,.ro (l.map aD)),(7,.lit (.int .i64 l.length)),(8,.lit (.int .i64 k)),(3,.lit (.int .i64 (iy l k)))],[],0,Tryz.f253.ntmps⟩)
  (fun k=>k<=l.length/\(ed (-2) l ↔ ed (iy l k) (l.drop k)) /\ -2<=iy l k/\iy l k<=4611686018427387903) (fun k=>l.length - k) 0 ⟨Nat.zero_le _,by simp[iy],by simp[iy],by simp[iy]⟩ du ?_
 rintro k ⟨ag,hi,sn,nk⟩
 by_cases aJ:k<l.length
 ·have hd:=G2 (a:=iy l k) aJ
  have pS:=hw _ (cY aJ)
  unfold fz aF at pS
  have NU:iy l (k+1)=(l.getD k default).br:=by unfold iy;rw[if_neg (by omega),Nat.add_sub_cancel]
  (repeat' first|(refine dM (Cs _) (ht:=?_) (hff:=?_) <;> intro _ <;> try (exfalso;omega))|(refine dN (Cs _) (ht:=?_) (hff:=?_) <;> intro _ <;> try (exfalso;omega))|(refine ab ?_;((repeat' first|exact True.intro|refine R.mk ?_ ?_);all_goals intros))|fail "")
  all_goals first
   | (refine bt (hr:=?_);unfold gH;rw[if_neg (fun h=>?_)];have:=hd.1 (hi.1 h);unfold b9 at *;omega)
   | (refine ⟨k+1,?_,?_,?_⟩;rotate_left 2;(exact ax);(exact bN);(exact G3))
 ·(repeat' first|(refine ab ?_;((repeat' first|exact True.intro|refine R.mk ?_ ?_);all_goals intros))|fail "")
  all_goals (refine bt (hr:=?_);unfold gH;rw[if_pos (hi.2 (by rw[List.drop_eq_nil_of_le (by omega)];trivial))])
end
end Go.Proofs.YtendheafcbickaaGreat
