
import Derived.Test.YtendheafcbickaaGreatTZip
import Derived.Test.YtendheafcbickaaGreatTGo
import Derived.Test.YtendheafcbickaaGreatTMg06
import Derived.Test.YtendheafcbickaaGreatTMg13
set_option linter.unusedVariables false
set_option linter.unusedSimpArgs false
set_option maxHeartbeats 16000000
namespace Go.Proofs.YtendheafcbickaaGreat
set_option maxRecDepth 100000
attribute [local irreducible] cq a8 bw GStep Fn cu bk cU
def km (g:cl):Prop:=(0<=g.b4/\g.b4<=1099511627776)/\(1<=g.Next/\g.Next<=256)/\g.bb.length<=3/\0<=g.hR/\g.hR<=1099511627776
def fy (g:cl):Nat->fR
 | 0=>g.c1
 | 1=>g.c2
 | 2=>g.c3
 | _=>g.c4
def tP (l:List cb) (i:Nat):Int:=if i=0 then 0 else(l.getD (i - 1) default).Id
theorem BM (l:List cb):tP l 0=0:=rfl
theorem BN (l:List cb) (i:Nat):tP l (i+1)=(l.getD i default).Id:=by
 unfold tP
 rw[if_neg (by omega),Nat.add_sub_cancel]
def n4 (g:cl) (i:Nat):Prop:=(tP g.bb i<(g.bb.getD i default).Id/\(g.bb.getD i default).Id<g.Next/\(0<=(g.bb.getD i default).hk/\(g.bb.getD i default).hk<=255)/\0<=(g.bb.getD i default).gD/\(g.bb.getD i default).gD<=3)/\l0 (g.bb.getD i default).bX=0/\(g.bb.getD i default).bX.Client=false
def Gj (g:cl):Prop:=(km g/\cV (fun i=>ho (fy g i)=0) 4)/\cV (n4 g) g.bb.length
noncomputable def mO (g:cl):Int:=if yes (Gj g)=true then 0 else 9
theorem MO {g:cl} (h:Gj g):mO g=0:=if_pos (nh h)
theorem MP {g:cl} (h:¬ Gj g):mO g=9:=if_neg (by rw[qZ h];exact Bool.false_ne_true)
def XT (Vg:Int) (Vh:Bool):cl:=⟨Vg,0,1,[],⟨false,0,0⟩,⟨false,0,0⟩,⟨false,0,0⟩,⟨false,0,0⟩,Vh,0⟩
theorem RD (g:cl) (hw:iT g):Fn Tryz.prog 35 [.agg (fU g)] (.lit (.int .i64 (mO g))):=by
 obtain ⟨w0,cy,cR,w3,ef,dU,eS,fV,h0,ju⟩:=hw
 have t0:=wP g.c1 dU
 have t1:=wP g.c2 eS
 have t2:=wP g.c3 fV
 have t3:=wP g.c4 h0
 clear w0 dU eS fV h0
 unfold aF at cy cR ju
 refine aU ae Tryz.func35 rfl ae ?_
 refine iv ?_
 refine lb ?_
 (repeat' first|(refine ni ?_;((repeat' first|exact True.intro|refine R.mk ?_ ?_);all_goals intros))|fail "")
 refine lc ?_
 refine fG (fun ok:Bool=>⟨[(1,.ptr 0 0 0 0),(2,.lit (.int .i64 0)),(3,.lit (.bool ok))],[(0,some (.box 28 (fU g)))],1,Tryz.f35.ntmps⟩) (fun ok=>ok=true ↔ km g) ?_ ?_
 ·unfold km
  (repeat' first|(refine ab ?_;((repeat' first|exact True.intro|refine R.mk ?_ ?_);all_goals intros))|fail "")
  all_goals first
   | (refine ⟨true,?_,?_⟩;rotate_left 1;(exact ax);(exact vC))
   | (refine ⟨false,?_,?_⟩;rotate_left 1;(exact ax);(exact vD))
   | skip
 rintro ok bu
 clear cy ju
 (repeat' first|(refine ab ?_;((repeat' first|exact True.intro|refine R.mk ?_ ?_);all_goals intros))|fail "")
 refine b2 (fun x:Nat×Bool=>⟨[(1,.ptr 0 0 0 0),(2,.lit (.int .i64 0)),(3,.lit (.bool x.2)),(44,.agg [.lit (.bool g.c1.bO),.lit (.int .i64 g.c1.bM),.lit (.int .i64 g.c1.az),.lit (.bool g.c2.bO),.lit (.int .i64 g.c2.bM),.lit (.int .i64 g.c2.az),.lit (.bool g.c3.bO),.lit (.int .i64 g.c3.bM),.lit (.int .i64 g.c3.az),.lit (.bool g.c4.bO),.lit (.int .i64 g.c4.bM),.lit (.int .i64 g.c4.az)]),(45,.lit (.int .i64 x.1))],[(0,some (.box 28 (fU g)))],1,Tryz.f35.ntmps⟩)
  (fun x=>x.1<=4/\(x.2=true ↔ km g/\cV (fun i=>ho (fy g i)=0) x.1)) (fun x=>4 - x.1) (0,ok) ⟨Nat.zero_le _,by rw[bu];exact⟨fun h=>⟨h,jx⟩,fun h=>h.1⟩⟩ q0 ?_
 clear ok bu
 rintro ⟨k,ok⟩ ⟨ag,hi⟩
 dsimp only at ag hi ⊢
 by_cases aJ:k<4
 ·have ap:=gn (Q:=fun i=>ho (fy g i)=0) (k:=k)
  clear ef ap
  rcases (show k=0\/k=1\/k=2\/k=3 by omega) with rfl|rfl|rfl|rfl
  ·have ap:=gn (Q:=fun i=>ho (fy g i)=0) (k:=0)
   cases ok
   ·have hi:¬ (km g/\cV (fun i=>ho (fy g i)=0) 0):=fun h=>by have:=hi.2 h;cases this
    (repeat' first|refine lX (h:=?_)|(refine ab ?_;((repeat' first|exact True.intro|refine R.mk ?_ ?_);all_goals intros))|fail "")
    all_goals first
     | (refine ⟨(0+1,false),?_,?_,?_⟩;rotate_left 2;(exact ax);(exact bV);(exact rr))
     | skip
   ·obtain ⟨hh,bj⟩:=hi.1 rfl
    (repeat' first|refine lX (h:=?_)|(refine ar (t0) (h:=?_))|(refine au (t0) (h:=?_))|(refine ab ?_;((repeat' first|exact True.intro|refine R.mk ?_ ?_);all_goals intros))|fail "")
    all_goals first
     | (refine ⟨(0+1,true),?_,?_,?_⟩;rotate_left 2;(exact ax);(exact bV);(exact rs))
     | (refine ⟨(0+1,false),?_,?_,?_⟩;rotate_left 2;(exact ax);(exact bV);(exact rq))
     | skip
  ·have ap:=gn (Q:=fun i=>ho (fy g i)=0) (k:=1)
   cases ok
   ·have hi:¬ (km g/\cV (fun i=>ho (fy g i)=0) 1):=fun h=>by have:=hi.2 h;cases this
    (repeat' first|refine lX (h:=?_)|(refine ab ?_;((repeat' first|exact True.intro|refine R.mk ?_ ?_);all_goals intros))|fail "")
    all_goals first
     | (refine ⟨(1+1,false),?_,?_,?_⟩;rotate_left 2;(exact ax);(exact bV);(exact rr))
     | skip
   ·obtain ⟨hh,bj⟩:=hi.1 rfl
    (repeat' first|refine lX (h:=?_)|(refine ar (t1) (h:=?_))|(refine au (t1) (h:=?_))|(refine ab ?_;((repeat' first|exact True.intro|refine R.mk ?_ ?_);all_goals intros))|fail "")
    all_goals first
     | (refine ⟨(1+1,true),?_,?_,?_⟩;rotate_left 2;(exact ax);(exact bV);(exact rs))
     | (refine ⟨(1+1,false),?_,?_,?_⟩;rotate_left 2;(exact ax);(exact bV);(exact rq))
     | skip
  ·have ap:=gn (Q:=fun i=>ho (fy g i)=0) (k:=2)
   cases ok
   ·have hi:¬ (km g/\cV (fun i=>ho (fy g i)=0) 2):=fun h=>by have:=hi.2 h;cases this
    (repeat' first|refine lX (h:=?_)|(refine ab ?_;((repeat' first|exact True.intro|refine R.mk ?_ ?_);all_goals intros))|fail "")
    all_goals first
     | (refine ⟨(2+1,false),?_,?_,?_⟩;rotate_left 2;(exact ax);(exact bV);(exact rr))
     | skip
   ·obtain ⟨hh,bj⟩:=hi.1 rfl
    (repeat' first|refine lX (h:=?_)|(refine ar (t2) (h:=?_))|(refine au (t2) (h:=?_))|(refine ab ?_;((repeat' first|exact True.intro|refine R.mk ?_ ?_);all_goals intros))|fail "")
    all_goals first
     | (refine ⟨(2+1,true),?_,?_,?_⟩;rotate_left 2;(exact ax);(exact bV);(exact rs))
     | (refine ⟨(2+1,false),?_,?_,?_⟩;rotate_left 2;(exact ax);(exact bV);(exact rq))
     | skip
  ·have ap:=gn (Q:=fun i=>ho (fy g i)=0) (k:=3)
   cases ok
   ·have hi:¬ (km g/\cV (fun i=>ho (fy g i)=0) 3):=fun h=>by have:=hi.2 h;cases this
    (repeat' first|refine lX (h:=?_)|(refine ab ?_;((repeat' first|exact True.intro|refine R.mk ?_ ?_);all_goals intros))|fail "")
    all_goals first
     | (refine ⟨(3+1,false),?_,?_,?_⟩;rotate_left 2;(exact ax);(exact bV);(exact rr))
     | skip
   ·obtain ⟨hh,bj⟩:=hi.1 rfl
    (repeat' first|refine lX (h:=?_)|(refine ar (t3) (h:=?_))|(refine au (t3) (h:=?_))|(refine ab ?_;((repeat' first|exact True.intro|refine R.mk ?_ ?_);all_goals intros))|fail "")
    all_goals first
     | (refine ⟨(3+1,true),?_,?_,?_⟩;rotate_left 2;(exact ax);(exact bV);(exact rs))
     | (refine ⟨(3+1,false),?_,?_,?_⟩;rotate_left 2;(exact ax);(exact bV);(exact rq))
     | skip
 have ct:k=4:=by omega
 subst ct
 clear aJ ag t0 t1 t2 t3
 have fW:g.bb.length<=1000000000000000:=by omega
 generalize b1:cV (fun i=>ho (fy g i)=0) 4=A at hi
 (repeat' first|(refine ab ?_;((repeat' first|exact True.intro|refine R.mk ?_ ?_);all_goals intros))|fail "")
 refine b2 (fun x:Nat×Bool=>⟨[(1,.ptr 0 0 0 0),(2,.lit (.int .i64 0)),(3,.lit (.bool x.2)),(6,.lit (.int .i64 (tP g.bb x.1))),(56,.ro (g.bb.map cQ)),(57,.lit (.int .i64 g.bb.length)),(58,.lit (.int .i64 x.1))],[(0,some (.box 28 (fU g)))],1,Tryz.f35.ntmps⟩)
  (fun x=>x.1<=g.bb.length/\(x.2=true ↔ (km g/\A)/\cV (n4 g) x.1)) (fun x=>g.bb.length - x.1) (0,ok) ⟨Nat.zero_le _,by rw[hi];exact⟨fun h=>⟨h,jx⟩,fun h=>h.1⟩⟩ (by(try dsimp only);(try rw[BM]);(exact ax)) ?_
 clear ok hi
 rintro ⟨k,ok⟩ ⟨ag,hi⟩
 dsimp only at ag hi ⊢
 by_cases aJ:k<g.bb.length
 ·have ap:=gn (Q:=n4 g) (k:=k)
  have aw:=BN g.bb k
  have l1:=ef _ (cY aJ)
  have I:=Ck _ l1.2.2.2.2
  cases ok
  ·have hi:¬ ((km g/\A)/\cV (n4 g) k):=fun h=>by have:=hi.2 h;cases this
   generalize tP g.bb k=Co
   (repeat' first|(refine ab ?_;((repeat' first|exact True.intro|refine R.mk ?_ ?_);all_goals intros))|fail "")
   all_goals first
    | (refine ⟨(k+1,false),?_,?_,?_⟩;rotate_left 2;(exact ax);(exact bV);(exact sk))
    | skip
  ·obtain ⟨hh,bj⟩:=hi.1 rfl
   unfold n4 at ap
   generalize tP g.bb k=Co at *
   (repeat' first|(refine ar (I) (h:=?_))|(refine au (I) (h:=?_))|(refine ab ?_;((repeat' first|exact True.intro|refine R.mk ?_ ?_);all_goals intros))|fail "")
   all_goals first
    | (refine ⟨(k+1,false),?_,?_,?_⟩;rotate_left 2;(exact ax);(exact bV);(exact pR))
    | (cases hb:(g.bb.getD k default).bX.Client;(focus (refine ⟨(k+1,true),?_,?_,?_⟩;rotate_left 2;(exact ax);(exact bV);(exact Dz)));(focus (refine ⟨(k+1,false),?_,?_,?_⟩;rotate_left 2;(exact ax);(exact bV);(exact Dy))))
    | skip
 have ct:k=g.bb.length:=by omega
 subst ct
 subst b1
 cases ok
 ·rw[MP (fun h=>by have:=hi.2 h;cases this)]
  (repeat' first|(refine ab ?_;((repeat' first|exact True.intro|refine R.mk ?_ ?_);all_goals intros))|fail "")
  all_goals first
   | exact bt (hr:=rfl)
   | skip
 ·rw[MO (hi.1 rfl)]
  (repeat' first|(refine ab ?_;((repeat' first|exact True.intro|refine R.mk ?_ ?_);all_goals intros))|fail "")
  all_goals first
   | exact bt (hr:=rfl)
   | skip
theorem RH (g:cl) (hu:W.iT g):Fn Tryz.prog 41 [.agg (fU g)] (.lit (.int .i64 (mO g))):=by
 have hw:=W.Eh g hu
 have iX:∀ y,y ∈ g.bb->W.hY y:=hu.2.2.2.2.1
 obtain ⟨w0,cy,cR,w3,ef,dU,eS,fV,h0,ju⟩:=hw
 clear hu
 have t0:=wQ g.c1 dU
 have t1:=wQ g.c2 eS
 have t2:=wQ g.c3 fV
 have t3:=wQ g.c4 h0
 clear w0 dU eS fV h0
 unfold aF at cy cR ju
 refine aU ae Tryz.func41 rfl ae ?_
 refine iv ?_
 refine lb ?_
 (repeat' first|(refine ni ?_;((repeat' first|exact True.intro|refine R.mk ?_ ?_);all_goals intros))|fail "")
 refine lc ?_
 refine fG (fun ok:Bool=>⟨[(1,.ptr 0 0 0 0),(2,.lit (.int .i64 0)),(3,.lit (.bool ok))],[(0,some (.box 28 (fU g)))],1,Tryz.f41.ntmps⟩) (fun ok=>ok=true ↔ km g) ?_ ?_
 ·unfold km
  (repeat' first|(refine dM (cB _ _) (ht:=?_) (hff:=?_) <;> intro _ <;> try (exfalso;omega))|(refine dN (cB _ _) (ht:=?_) (hff:=?_) <;> intro _ <;> try (exfalso;omega))|(refine ab ?_;((repeat' first|exact True.intro|refine R.mk ?_ ?_);all_goals intros))|fail "")
  all_goals (try simp only[IntKind.wrap_i64] at *)
  all_goals first
   | (refine ⟨true,?_,?_⟩;rotate_left 1;(exact ax);(exact vC))
   | (refine ⟨false,?_,?_⟩;rotate_left 1;(exact ax);(exact vD))
   | skip
 rintro ok bu
 clear cy ju
 (repeat' first|(refine ab ?_;((repeat' first|exact True.intro|refine R.mk ?_ ?_);all_goals intros))|fail "")
 refine b2 (fun x:Nat×Bool=>⟨[(1,.ptr 0 0 0 0),(2,.lit (.int .i64 0)),(3,.lit (.bool x.2)),(29,.agg [.lit (.bool g.c1.bO),.lit (.int .i64 g.c1.bM),.lit (.int .i64 g.c1.az),.lit (.bool g.c2.bO),.lit (.int .i64 g.c2.bM),.lit (.int .i64 g.c2.az),.lit (.bool g.c3.bO),.lit (.int .i64 g.c3.bM),.lit (.int .i64 g.c3.az),.lit (.bool g.c4.bO),.lit (.int .i64 g.c4.bM),.lit (.int .i64 g.c4.az)]),(30,.lit (.int .i64 x.1))],[(0,some (.box 28 (fU g)))],1,Tryz.f41.ntmps⟩)
  (fun x=>x.1<=4/\(x.2=true ↔ km g/\cV (fun i=>ho (fy g i)=0) x.1)) (fun x=>4 - x.1) (0,ok) ⟨Nat.zero_le _,by rw[bu];exact⟨fun h=>⟨h,jx⟩,fun h=>h.1⟩⟩ q0 ?_
 clear ok bu
 rintro ⟨k,ok⟩ ⟨ag,hi⟩
 dsimp only at ag hi ⊢
 by_cases aJ:k<4
 ·have ap:=gn (Q:=fun i=>ho (fy g i)=0) (k:=k)
  clear ef ap
  rcases (show k=0\/k=1\/k=2\/k=3 by omega) with rfl|rfl|rfl|rfl
  ·have ap:=gn (Q:=fun i=>ho (fy g i)=0) (k:=0)
   cases ok
   ·have hi:¬ (km g/\cV (fun i=>ho (fy g i)=0) 0):=fun h=>by have:=hi.2 h;cases this
    (repeat' first|refine lX (h:=?_)|(refine ab ?_;((repeat' first|exact True.intro|refine R.mk ?_ ?_);all_goals intros))|fail "")
    all_goals first
     | (refine ⟨(0+1,false),?_,?_,?_⟩;rotate_left 2;(exact ax);(exact bV);(exact rr))
     | skip
   ·obtain ⟨hh,bj⟩:=hi.1 rfl
    (repeat' first|refine lX (h:=?_)|(refine ar (t0) (h:=?_))|(refine au (t0) (h:=?_))|(refine ab ?_;((repeat' first|exact True.intro|refine R.mk ?_ ?_);all_goals intros))|fail "")
    all_goals first
     | (refine ⟨(0+1,true),?_,?_,?_⟩;rotate_left 2;(exact ax);(exact bV);(exact rs))
     | (refine ⟨(0+1,false),?_,?_,?_⟩;rotate_left 2;(exact ax);(exact bV);(exact rq))
     | skip
  ·have ap:=gn (Q:=fun i=>ho (fy g i)=0) (k:=1)
   cases ok
   ·have hi:¬ (km g/\cV (fun i=>ho (fy g i)=0) 1):=fun h=>by have:=hi.2 h;cases this
    (repeat' first|refine lX (h:=?_)|(refine ab ?_;((repeat' first|exact True.intro|refine R.mk ?_ ?_);all_goals intros))|fail "")
    all_goals first
     | (refine ⟨(1+1,false),?_,?_,?_⟩;rotate_left 2;(exact ax);(exact bV);(exact rr))
     | skip
   ·obtain ⟨hh,bj⟩:=hi.1 rfl
    (repeat' first|refine lX (h:=?_)|(refine ar (t1) (h:=?_))|(refine au (t1) (h:=?_))|(refine ab ?_;((repeat' first|exact True.intro|refine R.mk ?_ ?_);all_goals intros))|fail "")
    all_goals first
     | (refine ⟨(1+1,true),?_,?_,?_⟩;rotate_left 2;(exact ax);(exact bV);(exact rs))
     | (refine ⟨(1+1,false),?_,?_,?_⟩;rotate_left 2;(exact ax);(exact bV);(exact rq))
     | skip
  ·have ap:=gn (Q:=fun i=>ho (fy g i)=0) (k:=2)
   cases ok
   ·have hi:¬ (km g/\cV (fun i=>ho (fy g i)=0) 2):=fun h=>by have:=hi.2 h;cases this
    (repeat' first|refine lX (h:=?_)|(refine ab ?_;((repeat' first|exact True.intro|refine R.mk ?_ ?_);all_goals intros))|fail "")
    all_goals first
     | (refine ⟨(2+1,false),?_,?_,?_⟩;rotate_left 2;(exact ax);(exact bV);(exact rr))
     | skip
   ·obtain ⟨hh,bj⟩:=hi.1 rfl
    (repeat' first|refine lX (h:=?_)|(refine ar (t2) (h:=?_))|(refine au (t2) (h:=?_))|(refine ab ?_;((repeat' first|exact True.intro|refine R.mk ?_ ?_);all_goals intros))|fail "")
    all_goals first
     | (refine ⟨(2+1,true),?_,?_,?_⟩;rotate_left 2;(exact ax);(exact bV);(exact rs))
     | (refine ⟨(2+1,false),?_,?_,?_⟩;rotate_left 2;(exact ax);(exact bV);(exact rq))
     | skip
  ·have ap:=gn (Q:=fun i=>ho (fy g i)=0) (k:=3)
   cases ok
   ·have hi:¬ (km g/\cV (fun i=>ho (fy g i)=0) 3):=fun h=>by have:=hi.2 h;cases this
    (repeat' first|refine lX (h:=?_)|(refine ab ?_;((repeat' first|exact True.intro|refine R.mk ?_ ?_);all_goals intros))|fail "")
    all_goals first
     | (refine ⟨(3+1,false),?_,?_,?_⟩;rotate_left 2;(exact ax);(exact bV);(exact rr))
     | skip
   ·obtain ⟨hh,bj⟩:=hi.1 rfl
    (repeat' first|refine lX (h:=?_)|(refine ar (t3) (h:=?_))|(refine au (t3) (h:=?_))|(refine ab ?_;((repeat' first|exact True.intro|refine R.mk ?_ ?_);all_goals intros))|fail "")
    all_goals first
     | (refine ⟨(3+1,true),?_,?_,?_⟩;rotate_left 2;(exact ax);(exact bV);(exact rs))
     | (refine ⟨(3+1,false),?_,?_,?_⟩;rotate_left 2;(exact ax);(exact bV);(exact rq))
     | skip
 have ct:k=4:=by omega
 subst ct
 clear aJ ag t0 t1 t2 t3
 have fW:g.bb.length<=1000000000000000:=by omega
 generalize b1:cV (fun i=>ho (fy g i)=0) 4=A at hi
 (repeat' first|(refine ab ?_;((repeat' first|exact True.intro|refine R.mk ?_ ?_);all_goals intros))|fail "")
 refine b2 (fun x:Nat×Bool=>⟨[(1,.ptr 0 0 0 0),(2,.lit (.int .i64 0)),(3,.lit (.bool x.2)),(41,.ro (g.bb.map cQ)),(42,.lit (.int .i64 g.bb.length)),(43,.lit (.int .i64 x.1))],[(0,some (.box 28 (fU g)))],1,Tryz.f41.ntmps⟩)
  (fun x=>x.1<=g.bb.length/\(x.2=true ↔ (km g/\A)/\cV (n4 g) x.1)) (fun x=>g.bb.length - x.1) (0,ok) ⟨Nat.zero_le _,by rw[hi];exact⟨fun h=>⟨h,jx⟩,fun h=>h.1⟩⟩ (by(try dsimp only);(try rw[BM]);(exact ax)) ?_
 clear ok hi
 rintro ⟨k,ok⟩ ⟨ag,hi⟩
 dsimp only at ag hi ⊢
 by_cases aJ:k<g.bb.length
 ·have ap:=gn (Q:=n4 g) (k:=k)
  have aw:=BN g.bb k
  have l1:=ef _ (cY aJ)
  have iV:=iX _ (cY aJ)
  have I:=DF _ iV.2.2.2.2
  have MQ:(g.bb.getD k default).bX.Client=false->Fn Tryz.prog 66 [.agg (e2 { (g.bb.getD k default).bX with Client:=false })] (.lit (.int .i64 (l0 (g.bb.getD k default).bX))):=fun h=>by
   have e:{ (g.bb.getD k default).bX with Client:=false }=(g.bb.getD k default).bX:=by rw[<- h]
   rw[e];exact I
  have MR:=l1.1
  unfold aF at MR
  cases ok
  ·have hi:¬ ((km g/\A)/\cV (n4 g) k):=fun h=>by have:=hi.2 h;cases this
   (repeat' first|(refine ab ?_;((repeat' first|exact True.intro|refine R.mk ?_ ?_);all_goals intros))|fail "")
   all_goals first
    | (refine ⟨(k+1,false),?_,?_,?_⟩;rotate_left 2;(exact ax);(exact bV);(exact sk))
    | skip
  ·obtain ⟨hh,bj⟩:=hi.1 rfl
   have fZ:1<=g.Next/\g.Next<=256:=hh.1.2.1
   have Vi:IntKind.i64.wrap (g.Next - 2)=g.Next - 2:=by rw[IntKind.wrap_i64];omega
   rcases Nat.eq_zero_or_pos k with af|af
   ·subst af
    unfold n4 at ap
    rw[BM] at ap
    (repeat' first|(refine ar (I) (h:=?_))|(refine au (I) (h:=?_))|(refine dM (cB _ _) (ht:=?_) (hff:=?_) <;> intro _ <;> try (exfalso;omega))|(refine dN (cB _ _) (ht:=?_) (hff:=?_) <;> intro _ <;> try (exfalso;omega))|(refine ab ?_;((repeat' first|exact True.intro|refine R.mk ?_ ?_);all_goals intros))|fail "")
    all_goals (try simp only[IntKind.wrap_i64] at *)
    all_goals first
     | (refine ⟨(0+1,false),?_,?_,?_⟩;rotate_left 2;(exact ax);(exact bV);(exact pR))
     | (cases hb:(g.bb.getD 0 default).bX.Client;(focus (have J:=MQ hb;(try dsimp only[cond_true,cond_false]);(repeat' first|(refine ar (J) (h:=?_))|(refine au (J) (h:=?_))|(refine ab ?_;((repeat' first|exact True.intro|refine R.mk ?_ ?_);all_goals intros))|fail "");all_goals first|(refine ⟨(0+1,true),?_,?_,?_⟩;rotate_left 2;(exact ax);(exact bV);(exact Dz))|(refine ⟨(0+1,false),?_,?_,?_⟩;rotate_left 2;(exact ax);(exact bV);(exact Iv))|skip));(focus ((try dsimp only[cond_true,cond_false]);(repeat' first|(refine ab ?_;((repeat' first|exact True.intro|refine R.mk ?_ ?_);all_goals intros))|fail "");all_goals first|(refine ⟨(0+1,false),?_,?_,?_⟩;rotate_left 2;(exact ax);(exact bV);(exact Dy))|skip)))
     | skip
   ·obtain ⟨j,rfl⟩:∃ j,k=j+1:=⟨k - 1,by omega⟩
    have p4:1<=(g.bb.getD j default).Id:=by
     clear ap hi
     have:∀ i,i<=j->1<=(g.bb.getD i default).Id:=by
      intro i
      induction i with
      | zero=>intro _;have:=(bj 0 (by omega)).1.1;rw[BM] at this;omega
      | succ i cf=>intro hi;have:=(bj (i+1) (by omega)).1.1;rw[BN] at this;have:=cf (by omega);omega
     exact this j (Nat.le_refl _)
    unfold n4 at ap
    rw[BN] at ap
    have BO:((j+1:Nat):Int) - 1=(j:Int):=by omega
    (repeat' first|(refine ar (I) (h:=?_))|(refine au (I) (h:=?_))|(refine dM (cB _ _) (ht:=?_) (hff:=?_) <;> intro _ <;> try (exfalso;omega))|(refine dN (cB _ _) (ht:=?_) (hff:=?_) <;> intro _ <;> try (exfalso;omega))|(refine ab ?_;((repeat' first|exact True.intro|refine R.mk ?_ ?_);all_goals intros))|fail "")
    all_goals (try simp only[Nat.add_sub_cancel] at *)
    all_goals (try simp only[IntKind.wrap_i64] at *)
    all_goals first
     | (refine ⟨(j+1+1,false),?_,?_,?_⟩;rotate_left 2;(exact ax);(exact bV);(exact pR))
     | (cases hb:(g.bb.getD (j+1) default).bX.Client;(focus (have J:=MQ hb;(try dsimp only[cond_true,cond_false]);(repeat' first|(refine ar (J) (h:=?_))|(refine au (J) (h:=?_))|(refine ab ?_;((repeat' first|exact True.intro|refine R.mk ?_ ?_);all_goals intros))|fail "");all_goals first|(refine ⟨(j+1+1,true),?_,?_,?_⟩;rotate_left 2;(exact ax);(exact bV);(exact Dz))|(refine ⟨(j+1+1,false),?_,?_,?_⟩;rotate_left 2;(exact ax);(exact bV);(exact Iv))|skip));(focus ((try dsimp only[cond_true,cond_false]);(repeat' first|(refine ab ?_;((repeat' first|exact True.intro|refine R.mk ?_ ?_);all_goals intros))|fail "");all_goals first|(refine ⟨(j+1+1,false),?_,?_,?_⟩;rotate_left 2;(exact ax);(exact bV);(exact Dy))|skip)))
     | skip
 have ct:k=g.bb.length:=by omega
 subst ct
 subst b1
 cases ok
 ·rw[MP (fun h=>by have:=hi.2 h;cases this)]
  (repeat' first|(refine ab ?_;((repeat' first|exact True.intro|refine R.mk ?_ ?_);all_goals intros))|fail "")
  all_goals first
   | exact bt (hr:=rfl)
   | skip
 ·rw[MO (hi.1 rfl)]
  (repeat' first|(refine ab ?_;((repeat' first|exact True.intro|refine R.mk ?_ ?_);all_goals intros))|fail "")
  all_goals first
   | exact bt (hr:=rfl)
   | skip
end Go.Proofs.YtendheafcbickaaGreat
