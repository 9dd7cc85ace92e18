/-
  SEVERAL TEXTS IN ONE: each with its own comment.
-/
import Derived.Test.YtendheafcbickaaGreatTZip
import Derived.Test.YtendheafcbickaaGreatTGo
import Derived.Test.YtendheafcbickaaGreatTMg07
import Derived.Test.YtendheafcbickaaGreatTMg10
import Derived.Test.YtendheafcbickaaGreatTMg06
import Derived.Test.YtendheafcbickaaGreatTEnc
set_option linter.unusedVariables false
set_option linter.unusedSimpArgs false
set_option maxHeartbeats 16000000
namespace Go.Proofs.YtendheafcbickaaGreat
set_option maxRecDepth 100000
attribute [local irreducible] cq a8 bw GStep Fn cu bk
theorem zi (s:c8) (hw:eF s):Fn Tryz.prog 137 [.agg (gC s)] (.lit (.int .i64 (hZ s))):=by
 have iA:s.az.length<=1000000000000000:=by have:=hw.2.1;omega
 have iw:s.b7.length<=1000000000000000:=by have:=hw.2.2.2.2.2.2.1;omega
 have lC:s.cg.length<=1000000000000000:=by have:=hw.2.2.2.2.1;omega
 have I:=Cr s.cg hw.2.2.2.2.2.1 (by have:=hw.2.2.2.2.1;omega)
 have J:=fun n=>PL s.b7 n hw.2.2.2.2.2.2.1
 refine aU ae Tryz.func137 rfl ae ?_
 refine iv ?_
 refine lb ?_
 (repeat' first|(refine ni ?_;((repeat' first|exact True.intro|refine R.mk ?_ ?_);all_goals intros))|fail "")
 refine lc ?_
 refine fG (fun ok:Bool=>⟨[(1,.ptr 0 0 0 0),(2,.lit (.int .i64 0)),(3,.lit (.bool ok))],[(0,some (.box 43 (gC s)))],1,Tryz.f137.ntmps⟩) (fun ok=>ok=true ↔ gN s /\ ¬ s.dn ∈ s.b7) ?_ ?_
 ·(repeat' first|(refine dM (cB _ _) (ht:=?_) (hff:=?_) <;> intro _ <;> try (exfalso;omega))|(refine dN (cB _ _) (ht:=?_) (hff:=?_) <;> intro _ <;> try (exfalso;omega))|(refine ar (I) (h:=?_))|(refine au (I) (h:=?_))|(refine dM (J _) (ht:=?_) (hff:=?_) <;> intro _ <;> try (exfalso;omega))|(refine dN (J _) (ht:=?_) (hff:=?_) <;> intro _ <;> try (exfalso;omega))|(refine ab ?_;((repeat' first|exact True.intro|refine R.mk ?_ ?_);all_goals intros))|fail "")
  all_goals first
   | (refine ⟨true,?_,?_⟩;rotate_left 1;(exact ax);(focus (exact⟨fun _=>⟨(by unfold gN;omega),by assumption⟩,fun _=>rfl⟩)))
   | (refine ⟨false,?_,?_⟩;rotate_left 1;(exact ax);(focus (exact⟨(fun h=>by cases h),fun h=>(by obtain ⟨h,av⟩:=h;unfold gN at h;first|(exfalso;omega)|exact absurd ca av)⟩)))
 rintro ok bu
 (repeat' first|(refine ab ?_;((repeat' first|exact True.intro|refine R.mk ?_ ?_);all_goals intros))|fail "")
 refine b2 (fun x:Nat×Bool=>⟨[(1,.ptr 0 0 0 0),(2,.lit (.int .i64 0)),(3,.lit (.bool x.2)),(56,.ro (s.az.map bY)),(57,.lit (.int .i64 s.az.length)),(58,.lit (.int .i64 x.1))],[(0,some (.box 43 (gC s)))],1,Tryz.f137.ntmps⟩)
   (fun x=>x.1<=s.az.length/\(x.2=true ↔ (gN s /\ ¬ s.dn ∈ s.b7)/\cV (lj s) x.1)) (fun x=>s.az.length - x.1) (0,ok) ⟨Nat.zero_le _,by rw[bu];exact⟨fun h=>⟨h,jx⟩,fun h=>h.1⟩⟩ du ?_
 rintro ⟨k,ok⟩ ⟨ag,hi⟩
 dsimp only at ag hi ⊢
 by_cases aJ:k<s.az.length
 ·cases ok
  ·have hi:¬ ((gN s /\ ¬ s.dn ∈ s.b7)/\cV (lj s) k):=fun h=>by have:=hi.2 h;cases this
   (repeat' first|(refine ab ?_;((repeat' first|exact True.intro|refine R.mk ?_ ?_);all_goals intros))|fail "")
   all_goals (refine ⟨(k+1,false),?_,?_,?_⟩;rotate_left 2;(exact ax);(exact bV);(exact zG))
  ·obtain ⟨hh,bj⟩:=hi.1 rfl
   have s5:=hh.1
   unfold gN at s5
   have hq:lj s k ↔ lj s k:=Iff.rfl
   conv at hq=>rhs;unfold lj
   by_cases ng:k=0
   ·(repeat' first|(refine dM (cB _ _) (ht:=?_) (hff:=?_) <;> intro _ <;> try (exfalso;omega))|(refine dN (cB _ _) (ht:=?_) (hff:=?_) <;> intro _ <;> try (exfalso;omega))|(refine dM (J _) (ht:=?_) (hff:=?_) <;> intro _ <;> try (exfalso;omega))|(refine dN (J _) (ht:=?_) (hff:=?_) <;> intro _ <;> try (exfalso;omega))|(refine ab ?_;((repeat' first|exact True.intro|refine R.mk ?_ ?_);all_goals intros))|fail "")
    all_goals first
     | (refine ⟨(k+1,true),?_,?_,?_⟩;rotate_left 2;(exact ax);(exact bV);(exact Ik))
     | (refine ⟨(k+1,false),?_,?_,?_⟩;rotate_left 2;(exact ax);(exact bV);(exact Ij))
   ·(repeat' first|(refine dM (cB _ _) (ht:=?_) (hff:=?_) <;> intro _ <;> try (exfalso;omega))|(refine dN (cB _ _) (ht:=?_) (hff:=?_) <;> intro _ <;> try (exfalso;omega))|(refine dM (J _) (ht:=?_) (hff:=?_) <;> intro _ <;> try (exfalso;omega))|(refine dN (J _) (ht:=?_) (hff:=?_) <;> intro _ <;> try (exfalso;omega))|(refine ab ?_;((repeat' first|exact True.intro|refine R.mk ?_ ?_);all_goals intros))|fail "")
    all_goals first
     | (refine ⟨(k+1,true),?_,?_,?_⟩;rotate_left 2;(exact ax);(exact bV);(exact Ik))
     | (refine ⟨(k+1,false),?_,?_,?_⟩;rotate_left 2;(exact ax);(exact bV);(exact Ij))
 ·have ct:k=s.az.length:=by omega
  subst ct
  (repeat' first|(refine ab ?_;((repeat' first|exact True.intro|refine R.mk ?_ ?_);all_goals intros))|fail "")
  refine b2 (fun x:Nat×Bool=>⟨[(1,.ptr 0 0 0 0),(2,.lit (.int .i64 0)),(3,.lit (.bool x.2)),(108,.ro (s.b7.map encI)),(109,.lit (.int .i64 s.b7.length)),(110,.lit (.int .i64 x.1))],[(0,some (.box 43 (gC s)))],1,Tryz.f137.ntmps⟩)
   (fun x=>x.1<=s.b7.length/\(x.2=true ↔ ((gN s /\ ¬ s.dn ∈ s.b7)/\cV (lj s) s.az.length)/\cV (nY s) x.1)) (fun x=>s.b7.length - x.1) (0,ok) ⟨Nat.zero_le _,by rw[hi];exact⟨fun h=>⟨h,jx⟩,fun h=>h.1⟩⟩ du ?_
  rintro ⟨k,ok⟩ ⟨ag,hi⟩
  dsimp only at ag hi ⊢
  by_cases aJ:k<s.b7.length
  ·cases ok
   ·have hi:¬ (((gN s /\ ¬ s.dn ∈ s.b7)/\cV (lj s) s.az.length)/\cV (nY s) k):=fun h=>by have:=hi.2 h;cases this
    (repeat' first|(refine ab ?_;((repeat' first|exact True.intro|refine R.mk ?_ ?_);all_goals intros))|fail "")
    all_goals (refine ⟨(k+1,false),?_,?_,?_⟩;rotate_left 2;(exact ax);(exact bV);(exact zG))
   ·obtain ⟨hh,bj⟩:=hi.1 rfl
    have s5:=hh.1.1
    unfold gN at s5
    have hq:nY s k ↔ nY s k:=Iff.rfl
    conv at hq=>rhs;unfold nY
    by_cases ng:k=0
    ·(repeat' first|(refine dM (cB _ _) (ht:=?_) (hff:=?_) <;> intro _ <;> try (exfalso;omega))|(refine dN (cB _ _) (ht:=?_) (hff:=?_) <;> intro _ <;> try (exfalso;omega))|(refine ab ?_;((repeat' first|exact True.intro|refine R.mk ?_ ?_);all_goals intros))|fail "")
     all_goals first
      | (refine ⟨(k+1,true),?_,?_,?_⟩;rotate_left 2;(exact ax);(exact bV);(exact It))
      | (refine ⟨(k+1,false),?_,?_,?_⟩;rotate_left 2;(exact ax);(exact bV);(exact Dk))
    ·(repeat' first|(refine dM (cB _ _) (ht:=?_) (hff:=?_) <;> intro _ <;> try (exfalso;omega))|(refine dN (cB _ _) (ht:=?_) (hff:=?_) <;> intro _ <;> try (exfalso;omega))|(refine ab ?_;((repeat' first|exact True.intro|refine R.mk ?_ ?_);all_goals intros))|fail "")
     all_goals first
      | (refine ⟨(k+1,true),?_,?_,?_⟩;rotate_left 2;(exact ax);(exact bV);(exact It))
      | (refine ⟨(k+1,false),?_,?_,?_⟩;rotate_left 2;(exact ax);(exact bV);(exact Dk))
  ·have ct:k=s.b7.length:=by omega
   subst ct
   cases ok
   ·have hi:¬ o4 s:=fun h=>by have:=hi.2 ⟨⟨h.1,h.2.1⟩,h.2.2⟩;cases this
    (repeat' first|(refine ab ?_;((repeat' first|exact True.intro|refine R.mk ?_ ?_);all_goals intros))|fail "")
    all_goals exact bt (hr:=by rw[Dj hi])
   ·have hh:=hi.1 rfl
    (repeat' first|(refine ab ?_;((repeat' first|exact True.intro|refine R.mk ?_ ?_);all_goals intros))|fail "")
    all_goals exact bt (hr:=by rw[H4 ⟨hh.1.1,hh.1.2,hh.2⟩])
end Go.Proofs.YtendheafcbickaaGreat
namespace Go.Proofs.YtendheafcbickaaGreat
set_option maxRecDepth 100000
attribute [local irreducible] cq a8 bw GStep Fn cu bk
theorem Uu (g h:fE) (aj:iU g) (hh:iU h):Fn Tryz.prog 74 [.agg (l9 g),.agg (l9 h)] (.lit (.bool (yes (g=h)))):=by
 have iA:g.cI.length<=1000000000000000:=by have:=aj.2.1;omega
 have iw:h.cI.length<=1000000000000000:=by have:=hh.2.1;omega
 refine aU ae Tryz.func74 rfl ae ?_
 refine iv ?_
 refine lb ?_
 (repeat' first|(refine ni ?_;((repeat' first|exact True.intro|refine R.mk ?_ ?_);all_goals intros))|fail "")
 refine lc ?_
 refine fG (fun ok:Bool=>⟨[(2,.ptr 0 0 0 0),(3,.ptr 1 0 0 0),(4,.lit (.bool false)),(5,.lit (.bool ok))],[(0,some (.box 130 (l9 g))),(1,some (.box 130 (l9 h)))],2,Tryz.f74.ntmps⟩) (fun ok=>ok=true ↔ (g.fN=h.fN/\g.ig=h.ig/\g.cK=h.cK/\g.cI.length=h.cI.length)) ?_ ?_
 ·(repeat' first|(refine ab ?_;((repeat' first|exact True.intro|refine R.mk ?_ ?_);all_goals intros))|fail "")
  all_goals first
   | exact⟨true,⟨fun _=>(by omega),fun _=>rfl⟩,du⟩
   | exact⟨false,⟨fun h=>(by cases h),fun h=>(by omega)⟩,du⟩
 rintro ok bu
 refine iv ?_
 (repeat' first|(refine ab ?_;((repeat' first|exact True.intro|refine R.mk ?_ ?_);all_goals intros))|fail "")
 refine b2 (fun x:Nat×Bool=>⟨[(2,.ptr 0 0 0 0),(3,.ptr 1 0 0 0),(4,.lit (.bool false)),(5,.lit (.bool x.2)),(6,.lit (.int .i64 x.1))],[(0,some (.box 130 (l9 g))),(1,some (.box 130 (l9 h)))],2,Tryz.f74.ntmps⟩)
   (fun x=>(x.2=true->g.fN=h.fN/\g.ig=h.ig/\g.cK=h.cK)/\vZ g.cI h.cI (g=h) x.1 x.2) (fun x=>g.cI.length - x.1) (0,ok) ⟨fun h=>?_,Nat.zero_le _,fun h=>⟨?_,rfl⟩,fun h e=>?_⟩ du ?_
 ·have:=bu.1 h;omega
 ·have:=bu.1 h;omega
 ·have:=bu.2 (by rw[e];exact⟨rfl,rfl,rfl,rfl⟩);rw[show ok=false from h] at this;cases this
 rintro ⟨k,ok⟩ ⟨hq,ag,ap,hn⟩
 dsimp only at ag hq ap hn ⊢
 cases ok
 ·have hn:=hn rfl
  (repeat' first|(refine ab ?_;((repeat' first|exact True.intro|refine R.mk ?_ ?_);all_goals intros))|fail "")
  all_goals (refine bt (hr:=?_);exact nl hn)
 ·obtain ⟨aq,ht⟩:=ap rfl
  have hq:=hq rfl
  by_cases aJ:k<g.cI.length
  ·(repeat' first|(refine r2 (uk _ _) (ht:=?_) (hff:=?_) <;> intro _ <;> try (exfalso;omega))|(refine r3 (uk _ _) (ht:=?_) (hff:=?_) <;> intro _ <;> try (exfalso;omega))|(refine ab ?_;((repeat' first|exact True.intro|refine R.mk ?_ ?_);all_goals intros))|fail "")
   all_goals first
    | (refine ⟨(k+1,true),?_,?_,?_⟩;rotate_left 2;(exact ax);(exact bV);(focus (refine ⟨fun _=>hq,kU,fun _=>⟨aq,zE aJ (by omega) ht ?_⟩,fun h=>(by cases h)⟩;exact Oo ca ca)))
    | (refine ⟨(k+1,false),?_,?_,?_⟩;rotate_left 2;(exact ax);(exact bV);(focus (refine ⟨fun h=>(by cases h),kU,fun h=>(by cases h),fun _ e=>?_⟩;subst e;first|contradiction|omega|(simp_all;done))))
  ·(repeat' first|(refine ab ?_;((repeat' first|exact True.intro|refine R.mk ?_ ?_);all_goals intros))|fail "")
   all_goals (refine bt (hr:=?_))
   refine pV ?_
   have:=v7 (by omega) (by omega) ht
   cases g;cases h;simp_all
def qP (g:fE):Prop:=0<=g.fN /\ -1<=g.ig/\0<=g.cK/\g.cK<=4611686018427387903/\g.cI.length<=4
theorem M8:∀ (l:List dH) (f:Bool) (a b:Int),jn f a l=some b->a<=b
 | [],f,a,b,h=>by simp only[jn,Option.some.injEq] at h;omega
 | p :: l,f,a,b,h=>by
  simp only[jn] at h
  split at h
  ·have:=M8 l _ _ _ h;omega
  ·cases h
theorem VP {g:fE} (h:qb g (jn true g.fN g.cI)=true):g.fN<=g.cK:=by
 cases he:jn true g.fN g.cI with
 | none=>rw[he] at h;cases h
 | some b=>
  rw[he] at h
  have:=M8 _ _ _ _ he
  simp only[qb,Bool.and_eq_true,decide_eq_true_eq] at h
  omega
theorem VQ {g:fE} (h:¬ qP g):jP g=9:=H5 (fun hh=>h (by unfold mb at hh;unfold qP;omega))
theorem VR {g:fE} (h:qP g) (J:qb g (jn true g.fN g.cI)=true):jP g=0:=H6 (by have:=VP J;unfold qP at h;unfold mb;omega) J
def VS (g:fE) (x:Nat×Bool×Int):Prop:=
 x.1<=g.cI.length/\(x.2.1=false->jP g=9)/\(x.2.1=true->qP g/\0<=x.2.2/\jn (decide (x.1=0)) x.2.2 (g.cI.drop x.1)=jn true g.fN g.cI)
theorem VT (g:fE) (hw:iU g):Fn Tryz.prog 140 [.agg (l9 g)] (.lit (.int .i64 (jP g))):=by
 have hlen:g.cI.length<=1000000000000000:=by have:=hw.2.1;omega
 have mc:aF g.fN:=hw.1
 unfold aF at mc
 refine aU ae Tryz.func140 rfl ae ?_
 refine iv ?_
 refine lb ?_
 (repeat' first|(refine ni ?_;((repeat' first|exact True.intro|refine R.mk ?_ ?_);all_goals intros))|fail "")
 refine lc ?_
 refine fG (fun ok:Bool=>⟨[(1,.ptr 0 0 0 0),(2,.lit (.int .i64 0)),(3,.lit (.bool ok))],[(0,some (.box 130 (l9 g)))],1,Tryz.f140.ntmps⟩) (fun ok=>(ok=true->qP g)/\(ok=false->jP g=9)) ?_ ?_
 ·(repeat' first|(refine dM (cB _ _) (ht:=?_) (hff:=?_) <;> intro _ <;> try (exfalso;omega))|(refine dN (cB _ _) (ht:=?_) (hff:=?_) <;> intro _ <;> try (exfalso;omega))|(refine ab ?_;((repeat' first|exact True.intro|refine R.mk ?_ ?_);all_goals intros))|fail "")
  all_goals first
   | (refine ⟨true,?_,?_⟩;rotate_left 1;(exact ax);(focus (exact⟨fun _=>(by unfold qP;omega),fun h=>by cases h⟩)))
   | (refine ⟨false,?_,?_⟩;rotate_left 1;(exact ax);(focus (exact⟨(fun h=>by cases h),fun _=>VQ (by unfold qP;omega)⟩)))
 rintro ok ⟨zI,Dl⟩
 (repeat' first|(refine ab ?_;((repeat' first|exact True.intro|refine R.mk ?_ ?_);all_goals intros))|fail "")
 refine b2 (fun x:Nat×Bool×Int=>⟨[(1,.ptr 0 0 0 0),(2,.lit (.int .i64 0)),(3,.lit (.bool x.2.1)),(4,.lit (.int .i64 x.2.2)),(5,.lit (.int .i64 x.1))],[(0,some (.box 130 (l9 g)))],1,Tryz.f140.ntmps⟩)
   (VS g) (fun x=>g.cI.length - x.1) (0,ok,g.fN) ⟨Nat.zero_le _,Dl,fun h=>⟨zI h,(zI h).1,rfl⟩⟩ du ?_
 rintro ⟨k,ok,a⟩ ⟨ag,hf,ht⟩
 dsimp only at ag hf ht ⊢
 have b1:a<=9223372036854775807\/a > 9223372036854775807:=by omega
 cases ok
 ·have hf:=hf rfl
  (repeat' first|(refine ab ?_;((repeat' first|exact True.intro|refine R.mk ?_ ?_);all_goals intros))|fail "")
  all_goals exact bt (hr:=by rw[hf])
 obtain ⟨hh,af,ht⟩:=ht rfl
 have aj:=hh
 unfold qP at aj
 by_cases aJ:k<g.cI.length
 ·have ay:jn (decide (k=0)) a (g.cI.drop k)=if 0<(g.cI.getD k default).Data.length/\a<=(g.cI.getD k default).bI/\(g.cI.getD k default).bI+(g.cI.getD k default).Data.length<=4611686018427387903/\(k=0\/a<(g.cI.getD k default).bI) then jn false ((g.cI.getD k default).bI+(g.cI.getD k default).Data.length) (g.cI.drop (k+1)) else none:=by
   rw[drop_cons aJ];simp only[jn,decide_eq_true_eq]
  obtain ⟨Dm,p4⟩:=hw.2.2.1 _ (cY aJ)
  unfold aF at Dm
  rw[ay] at ht
  (repeat' first|(refine dM (cB _ _) (ht:=?_) (hff:=?_) <;> intro _ <;> try (exfalso;omega))|(refine dN (cB _ _) (ht:=?_) (hff:=?_) <;> intro _ <;> try (exfalso;omega))|(refine ab ?_;((repeat' first|exact True.intro|refine R.mk ?_ ?_);all_goals intros))|fail "")
  all_goals first
   | (refine ⟨(k+1,true,(g.cI.getD k default).bI+(g.cI.getD k default).Data.length),?_,?_,?_⟩;rotate_left 2;(exact ax);(exact bV);(focus (refine ⟨kU,(fun h=>by cases h),fun _=>⟨hh,kU,?_⟩⟩;rw[if_pos (by omega)] at ht;exact ht)))
   | (refine ⟨(k+1,false,IntKind.i64.wrap ((g.cI.getD k default).bI+(g.cI.getD k default).Data.length)),?_,?_,?_⟩;rotate_left 2;(exact ax);(exact bV);(exact Iq))
   | (refine ⟨(k+1,false,(g.cI.getD k default).bI+(g.cI.getD k default).Data.length),?_,?_,?_⟩;rotate_left 2;(exact ax);(exact bV);(exact Iq))
   | trace_state
 ·have ct:k=g.cI.length:=by omega
  rw[ct,List.drop_length] at ht
  (repeat' first|(refine ab ?_;((repeat' first|exact True.intro|refine R.mk ?_ ?_);all_goals intros))|fail "")
  all_goals first
   | (refine bt (hr:=?_);rw[zH zJ])
   | (refine bt (hr:=?_);rw[VR hh zJ])
end Go.Proofs.YtendheafcbickaaGreat
namespace Go.Proofs.YtendheafcbickaaGreat.bR
open Go.RowKit
def fz (x:aQ):Prop:=aF x.bs/\aF x.br
theorem BR (x:aQ) (h:fz x):Proofs.YtendheafcbickaaGreat.fz x:=by
 unfold fz at h
 unfold Proofs.YtendheafcbickaaGreat.fz
 obtain ⟨af,I⟩:=h
 exact⟨af,I⟩
def np (x:iB):Prop:=aF x.Max/\aF x.cm
theorem BS (x:iB) (h:np x):Proofs.YtendheafcbickaaGreat.np x:=by
 unfold np at h
 unfold Proofs.YtendheafcbickaaGreat.np
 obtain ⟨af,I⟩:=h
 exact⟨af,I⟩
def hE (x:fM):Prop:=aF x.cK/\aF x.eE/\aF x.dW/\aF x.Since
theorem M9 (x:fM) (h:hE x):Proofs.YtendheafcbickaaGreat.hE x:=by
 unfold hE at h
 unfold Proofs.YtendheafcbickaaGreat.hE
 obtain ⟨af,I,J,av⟩:=h
 exact⟨af,I,J,av⟩
def gL (x:fR):Prop:=aF x.bM/\aF x.az
theorem sg (x:fR) (h:gL x):Proofs.YtendheafcbickaaGreat.gL x:=by
 unfold gL at h
 unfold Proofs.YtendheafcbickaaGreat.gL
 obtain ⟨af,I⟩:=h
 exact⟨af,I⟩
def sA (x:sz):Prop:=x.Name.length<=1048576/\x.Value.length<=1048576
def jA (x:dH):Prop:=aF x.bI/\x.Data.length * 1<=1048576
theorem Gq (x:dH) (h:jA x):Proofs.YtendheafcbickaaGreat.jA x:=by
 unfold jA at h
 unfold Proofs.YtendheafcbickaaGreat.jA
 obtain ⟨af,I⟩:=h
 exact⟨af,(by have:=I;omega)⟩
def iU (x:fE):Prop:=aF x.fN/\x.cI.length * 32<=33554432/\(∀ y,y ∈ x.cI->jA y)/\aF x.ig/\aF x.cK
theorem BT (x:fE) (h:iU x):Proofs.YtendheafcbickaaGreat.iU x:=by
 unfold iU at h
 unfold Proofs.YtendheafcbickaaGreat.iU
 obtain ⟨af,I,J,av,bl⟩:=h
 exact⟨af,(by have:=I;omega),(fun y ai=>Gq y (J y ai)),av,bl⟩
def hJ (x:dE):Prop:=x.Data.length * 1<=1048576/\aF x.Next/\aF x.Max/\x.cp.length * 16<=16777216/\(∀ y,y ∈ x.cp->fz y)/\x.dF.length * 16<=16777216/\(∀ y,y ∈ x.dF->fz y)
theorem vP (x:dE) (h:hJ x):Proofs.YtendheafcbickaaGreat.hJ x:=by
 unfold hJ at h
 unfold Proofs.YtendheafcbickaaGreat.hJ
 obtain ⟨af,I,J,av,bl,dm,fr⟩:=h
 exact⟨(by have:=af;omega),I,J,(by have:=av;omega),(fun y ai=>BR y (bl y ai)),(by have:=dm;omega),(fun y ai=>BR y (fr y ai))⟩
def dC (x:bc):Prop:=aF x.Kind/\aF x.Id/\aF x.bI/\aF x.Code/\x.bi.length * 16<=16777216/\(∀ y,y ∈ x.bi->fz y)/\x.Data.length * 1<=1048576
theorem Gr (x:bc) (h:dC x):Proofs.YtendheafcbickaaGreat.dC x:=by
 unfold dC at h
 unfold Proofs.YtendheafcbickaaGreat.dC
 obtain ⟨af,I,J,av,bl,dm,fr⟩:=h
 exact⟨af,I,J,av,(by have:=bl;omega),(fun y ai=>BR y (dm y ai)),(by have:=fr;omega)⟩
def mK (x:gy):Prop:=aF x.Kind/\aF x.gW/\aF x.hk/\x.ky.length * 1<=1048576/\aF x.Number/\aF x.fm
def jg (x:eN):Prop:=aF x.Number/\aF x.Time/\aF x.fm/\x.Frames.length * 88<=92274688/\(∀ y,y ∈ x.Frames->dC y)
theorem VU (x:eN) (h:jg x):Proofs.YtendheafcbickaaGreat.jg x:=by
 unfold jg at h
 unfold Proofs.YtendheafcbickaaGreat.jg
 obtain ⟨af,I,J,av,bl⟩:=h
 exact⟨af,I,J,(by have:=av;omega),(fun y ai=>Gr y (bl y ai))⟩
def eF (x:c8):Prop:=aF x.Next/\x.az.length * 48<=50331648/\(∀ y,y ∈ x.az->jg y)/\aF x.dn/\x.cg.length * 16<=16777216/\(∀ y,y ∈ x.cg->fz y)/\x.b7.length * 8<=8388608/\(∀ y,y ∈ x.b7->aF y)
theorem Gi (x:c8) (h:eF x):Proofs.YtendheafcbickaaGreat.eF x:=by
 unfold eF at h
 unfold Proofs.YtendheafcbickaaGreat.eF
 obtain ⟨af,I,J,av,bl,dm,fr,gB⟩:=h
 exact⟨af,(by have:=I;omega),(fun y ai=>VU y (J y ai)),av,(by have:=bl;omega),(fun y ai=>BR y (dm y ai)),(by have:=fr;omega),gB⟩
def Ov (x:za):Prop:=aF x.Room/\aF x.CN/\x.Rows.length * 32<=33554432/\(∀ y,y ∈ x.Rows->sA y)
def Ow (x:zb):Prop:=x.oz.length * 32<=33554432/\(∀ y,y ∈ x.oz->sA y)/\x.Body.length * 1<=1048576
def Oy (x:zc):Prop:=x.cI.length * 1<=1048576/\x.oz.length * 32<=33554432/\(∀ y,y ∈ x.oz->sA y)/\x.Body.length * 1<=1048576
def gM (x:dV):Prop:=aF x.Id/\iU x.In/\x.Read.length * 1<=1048576/\hJ x.Out
theorem q2 (x:dV) (h:gM x):Proofs.YtendheafcbickaaGreat.gM x:=by
 unfold gM at h
 unfold Proofs.YtendheafcbickaaGreat.gM
 obtain ⟨af,I,J,av⟩:=h
 exact⟨af,(BT _ I),(by have:=J;omega),(vP _ av)⟩
def ej (x:a6):Prop:=eF x.bf/\hE x.e8/\np x.fL/\np x.fQ/\aF x.ks/\aF x.kK/\aF x.gJ/\x.aO.length * 192<=201326592/\(∀ y,y ∈ x.aO->gM y)/\x.Queue.length * 88<=92274688/\(∀ y,y ∈ x.Queue->dC y)/\aF x.jO/\aF x.kL/\aF x.Code
theorem pT (x:a6) (h:ej x):Proofs.YtendheafcbickaaGreat.ej x:=by
 unfold ej at h
 unfold Proofs.YtendheafcbickaaGreat.ej
 obtain ⟨af,I,J,av,bl,dm,fr,gB,iO,lg,pW,pX,kf,pY⟩:=h
 exact⟨(Gi _ af),(M9 _ I),(BS _ J),(BS _ av),bl,dm,fr,(by have:=gB;omega),(fun y ai=>q2 y (iO y ai)),(by have:=lg;omega),(fun y ai=>Gr y (pW y ai)),pX,kf,pY⟩
def hY (x:cb):Prop:=aF x.Id/\aF x.hk/\aF x.gD/\kg x.Key/\ej x.bX
theorem vI (x:cb) (h:hY x):Proofs.YtendheafcbickaaGreat.hY x:=by
 unfold hY at h
 unfold Proofs.YtendheafcbickaaGreat.hY
 obtain ⟨af,I,J,av,bl⟩:=h
 exact⟨af,I,J,av,(pT _ bl)⟩
def iT (x:cl):Prop:=kg x.iQ/\aF x.b4/\aF x.Next/\x.bb.length * 312<=327155712/\(∀ y,y ∈ x.bb->hY y)/\gL x.c1/\gL x.c2/\gL x.c3/\gL x.c4/\aF x.hR
theorem Eh (x:cl) (h:iT x):Proofs.YtendheafcbickaaGreat.iT x:=by
 unfold iT at h
 unfold Proofs.YtendheafcbickaaGreat.iT
 obtain ⟨af,I,J,av,bl,dm,fr,gB,iO,lg⟩:=h
 exact⟨af,I,J,(by have:=av;omega),(fun y ai=>vI y (bl y ai)),(sg _ dm),(sg _ fr),(sg _ gB),(sg _ iO),lg⟩
def vK (x:dG):Prop:=aF x.gD/\x.Data.length * 1<=1048576
def sB (x:h2):Prop:=aF x.gD/\aF x.Id/\kg x.o2/\x.ky.length * 1<=1048576/\aF x.gW/\kg x.Key/\ej x.bX
def CO (x:uf):Prop:=aF x.Kind/\aF x.gD/\aF x.At/\aF x.N/\kg x.o2/\x.Data.length * 1<=1048576
def vM (x:sC):Prop:=vK x.ze
def OA (x:zf):Prop:=iT x.Gate/\x.vN.length * 336<=352321536/\(∀ y,y ∈ x.vN->sB y)/\x.Way.length * 40<=41943040/\(∀ y,y ∈ x.Way->vM y)/\aF x.b4
end Go.Proofs.YtendheafcbickaaGreat.bR
namespace Go.Proofs.YtendheafcbickaaGreat.W
open Go.RowKit
def jA (x:dH):Prop:=aF x.bI/\x.Data.length * 1<=16777216
theorem Gq (x:dH) (h:W.jA x):Proofs.YtendheafcbickaaGreat.jA x:=by
 unfold W.jA at h
 unfold Proofs.YtendheafcbickaaGreat.jA
 obtain ⟨af,I⟩:=h
 exact⟨af,(by have:=I;omega)⟩
theorem VV (x:dH) (h:bR.jA x):W.jA x:=by
 unfold bR.jA at h
 unfold W.jA
 obtain ⟨af,I⟩:=h
 exact⟨af,(by have:=I;omega)⟩
def iU (x:fE):Prop:=aF x.fN/\x.cI.length * 32<=33554432/\(∀ y,y ∈ x.cI->jA y)/\aF x.ig/\aF x.cK
theorem BT (x:fE) (h:W.iU x):Proofs.YtendheafcbickaaGreat.iU x:=by
 unfold W.iU at h
 unfold Proofs.YtendheafcbickaaGreat.iU
 obtain ⟨af,I,J,av,bl⟩:=h
 exact⟨af,(by have:=I;omega),(fun y ai=>Gq y (J y ai)),av,bl⟩
theorem VW (x:fE) (h:bR.iU x):W.iU x:=by
 unfold bR.iU at h
 unfold W.iU
 obtain ⟨af,I,J,av,bl⟩:=h
 exact⟨af,(by have:=I;omega),(fun y ai=>VV y (J y ai)),av,bl⟩
def gM (x:dV):Prop:=aF x.Id/\iU x.In/\x.Read.length * 1<=1048576/\bR.hJ x.Out
theorem q2 (x:dV) (h:W.gM x):Proofs.YtendheafcbickaaGreat.gM x:=by
 unfold W.gM at h
 unfold Proofs.YtendheafcbickaaGreat.gM
 obtain ⟨af,I,J,av⟩:=h
 exact⟨af,(BT _ I),(by have:=J;omega),(bR.vP _ av)⟩
theorem VX (x:dV) (h:bR.gM x):W.gM x:=by
 unfold bR.gM at h
 unfold W.gM
 obtain ⟨af,I,J,av⟩:=h
 exact⟨af,(VW _ I),(by have:=J;omega),(id av)⟩
def ej (x:a6):Prop:=bR.eF x.bf/\bR.hE x.e8/\bR.np x.fL/\bR.np x.fQ/\aF x.ks/\aF x.kK/\aF x.gJ/\x.aO.length * 192<=201326592/\(∀ y,y ∈ x.aO->gM y)/\x.Queue.length * 88<=92274688/\(∀ y,y ∈ x.Queue->bR.dC y)/\aF x.jO/\aF x.kL/\aF x.Code
theorem pT (x:a6) (h:W.ej x):Proofs.YtendheafcbickaaGreat.ej x:=by
 unfold W.ej at h
 unfold Proofs.YtendheafcbickaaGreat.ej
 obtain ⟨af,I,J,av,bl,dm,fr,gB,iO,lg,pW,pX,kf,pY⟩:=h
 exact⟨(bR.Gi _ af),(bR.M9 _ I),(bR.BS _ J),(bR.BS _ av),bl,dm,fr,(by have:=gB;omega),(fun y ai=>q2 y (iO y ai)),(by have:=lg;omega),(fun y ai=>bR.Gr _ (pW y ai)),pX,kf,pY⟩
theorem VY (x:a6) (h:bR.ej x):W.ej x:=by
 unfold bR.ej at h
 unfold W.ej
 obtain ⟨af,I,J,av,bl,dm,fr,gB,iO,lg,pW,pX,kf,pY⟩:=h
 exact⟨(id af),(id I),(id J),(id av),bl,dm,fr,(by have:=gB;omega),(fun y ai=>VX y (iO y ai)),(by have:=lg;omega),(fun y ai=>id (pW y ai)),pX,kf,pY⟩
def hY (x:cb):Prop:=aF x.Id/\aF x.hk/\aF x.gD/\kg x.Key/\ej x.bX
theorem vI (x:cb) (h:W.hY x):Proofs.YtendheafcbickaaGreat.hY x:=by
 unfold W.hY at h
 unfold Proofs.YtendheafcbickaaGreat.hY
 obtain ⟨af,I,J,av,bl⟩:=h
 exact⟨af,I,J,av,(pT _ bl)⟩
theorem VZ (x:cb) (h:bR.hY x):W.hY x:=by
 unfold bR.hY at h
 unfold W.hY
 obtain ⟨af,I,J,av,bl⟩:=h
 exact⟨af,I,J,av,(VY _ bl)⟩
def iT (x:cl):Prop:=kg x.iQ/\aF x.b4/\aF x.Next/\x.bb.length * 312<=327155712/\(∀ y,y ∈ x.bb->hY y)/\bR.gL x.c1/\bR.gL x.c2/\bR.gL x.c3/\bR.gL x.c4/\aF x.hR
theorem Eh (x:cl) (h:W.iT x):Proofs.YtendheafcbickaaGreat.iT x:=by
 unfold W.iT at h
 unfold Proofs.YtendheafcbickaaGreat.iT
 obtain ⟨af,I,J,av,bl,dm,fr,gB,iO,lg⟩:=h
 exact⟨af,I,J,(by have:=av;omega),(fun y ai=>vI y (bl y ai)),(bR.sg _ dm),(bR.sg _ fr),(bR.sg _ gB),(bR.sg _ iO),lg⟩
theorem RI (x:cl) (h:bR.iT x):W.iT x:=by
 unfold bR.iT at h
 unfold W.iT
 obtain ⟨af,I,J,av,bl,dm,fr,gB,iO,lg⟩:=h
 exact⟨af,I,J,(by have:=av;omega),(fun y ai=>VZ y (bl y ai)),(id dm),(id fr),(id gB),(id iO),lg⟩
def sB (x:h2):Prop:=aF x.gD/\aF x.Id/\kg x.o2/\x.ky.length * 1<=1048576/\aF x.gW/\kg x.Key/\ej x.bX
end Go.Proofs.YtendheafcbickaaGreat.W
