/-
  SEVERAL TEXTS IN ONE: each with its own comment.
-/
import Derived.Test.YtendheafcbickaaGreatCMg12
set_option linter.unusedVariables false
set_option linter.unusedSimpArgs false
set_option maxHeartbeats 16000000
namespace Go.Proofs.YtendheafcbickaaGreat
variable {f:hz} {g:dQ}
section
set_option maxRecDepth 100000
attribute [local irreducible] cE a6 bu GStep Fn cg bf cA
def gT (f:hz):Prop:=0<=f.bG/\f.bG<=f.Max/\f.Max<=4611686018427387903
instance (f:hz):Decidable (gT f):=inferInstanceAs (Decidable (_/\_/\_))
def tG (f:hz):Int:=if gT f then 0 else 9
theorem wZ (h:gT f):tG f=0:=al h
theorem w1 (h:¬ gT f):tG f=9:=ah h
theorem CP (f:hz):Fn Tryz.prog 119 [.agg (pG f)] (I (tG f)):=by
 refine aH Tryz.func119 ?_;(try refine ay ?_;and_intros <;> intros)
 all_goals refine bX (hr:=?_)
 all_goals first
  | rw[wZ (by unfold gT;omega)]
  | rw[w1 (by unfold gT;omega)]
theorem Cb (f:hz):Fn Tryz.prog 139 [.agg (pG f)] (I (tG f)):=by
 refine aH Tryz.func139 ?_;(refine mc ?_;and_intros <;> intros)
 all_goals refine bX (hr:=?_)
 all_goals first
  | rw[wZ (by unfold gT;omega)]
  | rw[w1 (by unfold gT;omega)]
end
section
set_option maxRecDepth 100000
attribute [local irreducible] cE a6 bu GStep Fn cg
def fe:Bool->Int->List bA->Option Int
 | _,a,[]=>some a
 | f,a,p :: l=>if 0<p.Data.length/\a<=p.aP/\p.aP+p.Data.length<=4611686018427387903/\(f=true\/a<p.aP) then fe false (p.aP+p.Data.length) l else none
def gj (g:dQ):Prop:=0<=g.bQ /\ -1<=g.c8/\g.bQ<=g.bj/\g.bj<=4611686018427387903/\g.aD.length<=4
instance (g:dQ):Decidable (gj g):=inferInstanceAs (Decidable (_/\_))
def lZ (g:dQ):Option Int->Bool
 | some a=>decide (a<=g.bj) && (decide (g.c8<0) || decide (a<=g.c8))
 | none=>false
def ev (g:dQ):Int:=if gj g/\lZ g (fe true g.bQ g.aD)=true then 0 else 9
theorem Rp (h:¬ gj g):ev g=9:=ah (fun hh=>h hh.1)
theorem E6 (h:lZ g (fe true g.bQ g.aD)=false):ev g=9:=ah (fun hh=>by rw[h] at hh;exact iS hh.2)
theorem Rq (h:gj g) (aa:lZ g (fe true g.bQ g.aD)=true):ev g=0:=al ⟨h,aa⟩
def aaz (g:dQ) (x:Nat×Bool×Int):Prop:=
 x.1<=g.aD.length/\(x.2.1=false->ev g=9)/\(x.2.1=true->gj g/\fe (decide (x.1=0)) x.2.2 (g.aD.drop x.1)=fe true g.bQ g.aD)
theorem CC (g:dQ) (hw:ga g):Fn Tryz.prog 120 [.agg (e5 g)] (I (ev g)):=by
  have hlen:g.aD.length<=1000000000000000:=by have:=hw.2.1;omega
  have hY:aE g.bQ:=hw.1;unfold aE at hY;refine aH Tryz.func120 ?_;refine gW ?_;refine nW ?_;(repeat' first|(refine q5 ?_;(and_intros <;> intros))|fail);refine nX ?_;refine je (fun ok:Bool=>⟨[(1,.ptr 0 0 0 0),(2,I 0),(3,ab ok)],[(0,some (.box 130 (e5 g)))],1,Tryz.f120.ntmps⟩) (fun ok=>(ok=true->gj g)/\(ok=false->ev g=9)) ?_ ?_
  · (try refine ay ?_;and_intros <;> intros)
    all_goals first
      | exact⟨true,⟨fun _=>(by unfold gj;omega),fun h=>absurd h (by decide)⟩,dV⟩
      | exact⟨false,⟨fun h=>absurd h (by decide),fun _=>Rp (by unfold gj;omega)⟩,dV⟩
  rintro ok ⟨E7,dJ⟩;(try refine ay ?_;and_intros <;> intros);refine cv (fun x:Nat×Bool×Int=>⟨[(1,.ptr 0 0 0 0),(2,I 0),(3,ab x.2.1),(4,I x.2.2),(36,.ro (g.aD.map b5)),(37,I g.aD.length),(38,I x.1)],[(0,some (.box 130 (e5 g)))],1,Tryz.f120.ntmps⟩)
      (aaz g) (fun x=>g.aD.length - x.1) (0,ok,g.bQ) ⟨cm _,dJ,fun h=>⟨E7 h,rfl⟩⟩ dV ?_
  rintro ⟨k,ok,a⟩ ⟨ag,hf,ht⟩;dsimp only at ag hf ht ⊢;by_cases au:k<g.aD.length
  · have ax:fe (decide (k=0)) a (g.aD.drop k)=if 0<(g.aD.getD k default).Data.length/\a<=(g.aD.getD k default).aP/\(g.aD.getD k default).aP+(g.aD.getD k default).Data.length<=4611686018427387903/\(k=0\/a<(g.aD.getD k default).aP) then fe false ((g.aD.getD k default).aP+(g.aD.getD k default).Data.length) (g.aD.drop (k+1)) else none:=by
      rw[drop_cons au];simp only[fe,decide_eq_true_eq]
    obtain ⟨KR,wv⟩:=hw.2.2.1 _ (cc au);unfold aE at KR
    cases ok
    · have hf:=hf rfl;(try refine ay ?_;and_intros <;> intros)
      all_goals exact bX (hr:=by rw[hf])
    · obtain ⟨hh,ht⟩:=ht rfl;rw[ax] at ht;have av:=hh;unfold gj at av;(try refine ay ?_;and_intros <;> intros)
      all_goals first
        | (refine bX (hr:=?_);rw[E6 (by rw[<- ht,ah (by omega)];rfl)])
        | (refine ⟨(k + 1, true, (g.aD.getD k default).aP + (g.aD.getD k default).Data.length), ?_, ?_, ?_⟩
           · dsimp only;omega
           · refine ⟨b4,(fun h=>by cases h),fun _=>⟨hh,?_⟩⟩;rw[al (by omega)] at ht;exact ht
           · exact dV)
  · have ca:k=g.aD.length:=by omega
    cases ok
    · have hf:=hf rfl;(try refine ay ?_;and_intros <;> intros)
      all_goals exact bX (hr:=by rw[hf])
    · obtain ⟨hh,ht⟩:=ht rfl;have av:=hh;unfold gj at av;rw[ca,iJ] at ht;(try refine ay ?_;and_intros <;> intros)
      all_goals first
        | (refine bX (hr:=?_);rw[E6 E8])
        | (refine bX (hr:=?_);rw[Rq hh E8])
        | fail "left"
end
section
set_option maxRecDepth 100000
attribute [local irreducible] cE a6 bu GStep Fn cg bf
theorem Tc (n:Int):Fn Tryz.prog 236 [I n] (.bN [.agg (if n<0\/4611686018427387903<n then[I 0,aX,I 0,I 0] else[I 0,aX,I (-1),I n]),I (if n<0\/4611686018427387903<n then 6 else 0)]):=by
 refine aH Tryz.func236 ?_;(try refine ay ?_;and_intros <;> intros)
 all_goals refine bX (hr:=?_)
 ·rw[al (by omega),al (by omega)]
 ·rw[al (by omega),al (by omega)]
 ·rw[ah (by omega),ah (by omega)]
theorem Zk (g h:dQ) (av:ga g) (hh:ga h):Fn Tryz.prog 74 [.agg (e5 g),.agg (e5 h)] (ab (yes (g=h))):=by
 have fv:g.aD.length<=1000000000000000:=by have:=av.2.1;omega
 have gz:h.aD.length<=1000000000000000:=by have:=hh.2.1;omega
 refine aH Tryz.func74 ?_;refine gW ?_;refine nW ?_;(repeat' first|(refine q5 ?_;(and_intros <;> intros))|fail);refine nX ?_;refine je (fun ok:Bool=>⟨[(2,.ptr 0 0 0 0),(3,.ptr 1 0 0 0),(4,ab false),(5,ab ok)],[(0,some (.box 130 (e5 g))),(1,some (.box 130 (e5 h)))],2,Tryz.f74.ntmps⟩) (fun ok=>ok=true ↔ (g.bQ=h.bQ/\g.c8=h.c8/\g.bj=h.bj/\g.aD.length=h.aD.length)) ?_ ?_
 ·(try refine ay ?_;and_intros <;> intros)
  all_goals first
   | exact⟨true,⟨fun _=>(by omega),fun _=>rfl⟩,dV⟩
   | exact⟨false,⟨fun h=>(by cases h),fun h=>(by omega)⟩,dV⟩
 rintro ok bP;refine gW ?_;(try refine ay ?_;and_intros <;> intros);refine cv (fun x:Nat×Bool=>⟨[(2,.ptr 0 0 0 0),(3,.ptr 1 0 0 0),(4,ab false),(5,ab x.2),(6,I x.1)],[(0,some (.box 130 (e5 g))),(1,some (.box 130 (e5 h)))],2,Tryz.f74.ntmps⟩)
   (fun x=>(x.2=true->g.bQ=h.bQ/\g.c8=h.c8/\g.bj=h.bj)/\x7 g.aD h.aD (g=h) x.1 x.2) (fun x=>g.aD.length - x.1) (0,ok) ⟨fun h=>?_,cm _,fun h=>⟨?_,rfl⟩,fun h e=>?_⟩ dV ?_
 ·have:=bP.1 h;omega
 ·have:=bP.1 h;omega
 ·have:=bP.2 (by rw[e];exact⟨rfl,rfl,rfl,rfl⟩);rw[show ok=false from h] at this;cases this
 rintro ⟨k,ok⟩ ⟨hq,ag,aw,hn⟩;dsimp only at ag hq aw hn ⊢
 cases ok
 ·have hn:=hn rfl;(try refine ay ?_;and_intros <;> intros)
  all_goals (refine bX (hr:=?_);exact oy hn)
 ·obtain ⟨ao,ht⟩:=aw rfl;have hq:=hq rfl;by_cases au:k<g.aD.length
  ·(repeat' first|(refine uj (zH _ _) (ht:=?_) (hff:=?_) <;> intro _ <;> try (exfalso;omega))|(refine uk (zH _ _) (ht:=?_) (hff:=?_) <;> intro _ <;> try (exfalso;omega))|(refine ay ?_;(and_intros <;> intros))|fail)
   all_goals first
    | (exact⟨(k+1,true),b4,(by refine ⟨fun _=>hq,b4,fun _=>⟨ao,x8 au (by omega) ht ?_⟩,fun h=>(by cases h)⟩;exact Yj cu cu),ba⟩)
    | (exact⟨(k+1,false),b4,(by refine ⟨fun h=>(by cases h),b4,fun h=>(by cases h),fun _ e=>?_⟩;subst e;first|contradiction|omega|(simp_all;done)),ba⟩)
  ·(try refine ay ?_;and_intros <;> intros)
   all_goals (refine bX (hr:=?_))
   refine rH ?_;have:=x9 (by omega) (by omega) ht
   cases g;cases h;simp_all
def sQ (g:dQ):Prop:=0<=g.bQ /\ -1<=g.c8/\0<=g.bj/\g.bj<=4611686018427387903/\g.aD.length<=4
theorem Rr:∀ (l:List bA) (f:Bool) (a b:Int),fe f a l=some b->a<=b
 | [],f,a,b,h=>by simp only[fe,ck] at h;omega
 | p :: l,f,a,b,h=>by
  simp only[fe] at h;split at h
  ·have:=Rr l _ _ _ h;omega
  ·cases h
theorem aaA (h:lZ g (fe true g.bQ g.aD)=true):g.bQ<=g.bj:=by
 cases he:fe true g.bQ g.aD with
 | none=>rw[he] at h;cases h
 | some b=>
  rw[he] at h;have:=Rr _ _ _ _ he;simp only[lZ,fM,decide_eq_true_eq] at h;omega
theorem aaB (h:¬ sQ g):ev g=9:=Rp (fun hh=>h (by unfold gj at hh;unfold sQ;omega))
theorem aaC (h:sQ g) (aa:lZ g (fe true g.bQ g.aD)=true):ev g=0:=Rq (by have:=aaA aa;unfold sQ at h;unfold gj;omega) aa
def aaD (g:dQ) (x:Nat×Bool×Int):Prop:=
 x.1<=g.aD.length/\(x.2.1=false->ev g=9)/\(x.2.1=true->sQ g/\0<=x.2.2/\fe (decide (x.1=0)) x.2.2 (g.aD.drop x.1)=fe true g.bQ g.aD)
theorem Fu (g:dQ) (hw:ga g):Fn Tryz.prog 140 [.agg (e5 g)] (I (ev g)):=by
 have hlen:g.aD.length<=1000000000000000:=by have:=hw.2.1;omega
 have hY:aE g.bQ:=hw.1;unfold aE at hY;refine aH Tryz.func140 ?_;refine gW ?_;refine nW ?_;(repeat' first|(refine q5 ?_;(and_intros <;> intros))|fail);refine nX ?_;refine je (fun ok:Bool=>⟨[(1,.ptr 0 0 0 0),(2,I 0),(3,ab ok)],[(0,some (.box 130 (e5 g)))],1,Tryz.f140.ntmps⟩) (fun ok=>(ok=true->sQ g)/\(ok=false->ev g=9)) ?_ ?_
 ·(refine mc ?_;and_intros <;> intros)
  all_goals first
   | (exact⟨true,(by exact⟨fun _=>(by unfold sQ;omega),fun h=>by cases h⟩),ba⟩)
   | (exact⟨false,(by exact⟨(fun h=>by cases h),fun _=>aaB (by unfold sQ;omega)⟩),ba⟩)
 rintro ok ⟨E7,dJ⟩;(try refine ay ?_;and_intros <;> intros);refine cv (fun x:Nat×Bool×Int=>⟨[(1,.ptr 0 0 0 0),(2,I 0),(3,ab x.2.1),(4,I x.2.2),(5,I x.1)],[(0,some (.box 130 (e5 g)))],1,Tryz.f140.ntmps⟩)
   (aaD g) (fun x=>g.aD.length - x.1) (0,ok,g.bQ) ⟨cm _,dJ,fun h=>⟨E7 h,(E7 h).1,rfl⟩⟩ dV ?_
 rintro ⟨k,ok,a⟩ ⟨ag,hf,ht⟩;dsimp only at ag hf ht ⊢;have dC:a<=9223372036854775807\/a > 9223372036854775807:=by omega
 cases ok
 ·have hf:=hf rfl;(try refine ay ?_;and_intros <;> intros)
  all_goals exact bX (hr:=by rw[hf])
 obtain ⟨hh,ai,ht⟩:=ht rfl;have av:=hh;unfold sQ at av;by_cases au:k<g.aD.length
 ·have ax:fe (decide (k=0)) a (g.aD.drop k)=if 0<(g.aD.getD k default).Data.length/\a<=(g.aD.getD k default).aP/\(g.aD.getD k default).aP+(g.aD.getD k default).Data.length<=4611686018427387903/\(k=0\/a<(g.aD.getD k default).aP) then fe false ((g.aD.getD k default).aP+(g.aD.getD k default).Data.length) (g.aD.drop (k+1)) else none:=by
   rw[drop_cons au];simp only[fe,decide_eq_true_eq]
  obtain ⟨KR,wv⟩:=hw.2.2.1 _ (cc au);unfold aE at KR;rw[ax] at ht;(refine mc ?_;and_intros <;> intros)
  all_goals first
   | (exact⟨(k+1,true,(g.aD.getD k default).aP+(g.aD.getD k default).Data.length),b4,(by refine ⟨b4,(fun h=>by cases h),fun _=>⟨hh,b4,?_⟩⟩;rw[al (by omega)] at ht;exact ht),ba⟩)
   | (exact⟨(k+1,false,IntKind.i64.wrap ((g.aD.getD k default).aP+(g.aD.getD k default).Data.length)),b4,Rs,ba⟩)
   | (exact⟨(k+1,false,(g.aD.getD k default).aP+(g.aD.getD k default).Data.length),b4,Rs,ba⟩)
   | trace_state
 ·have ca:k=g.aD.length:=by omega
  rw[ca,iJ] at ht;(try refine ay ?_;and_intros <;> intros)
  all_goals first
   | (refine bX (hr:=?_);rw[E6 E8])
   | (refine bX (hr:=?_);rw[aaC hh E8])
end
end Go.Proofs.YtendheafcbickaaGreat
