
import Derived.Test.YtendheafcbickaaGreatCMg12
import Derived.Test.YtendheafcbickaaGreatCMg18
set_option linter.unusedVariables false
set_option linter.unusedSimpArgs false
set_option maxHeartbeats 16000000
namespace Go.Proofs.YtendheafcbickaaGreat
set_option maxRecDepth 100000
attribute [local irreducible] cE a6 bu GStep Fn cg bf
theorem FZ (s:ey) (hw:gM s):Fn Tryz.prog 137 [.agg (iB s)] (I (lf s)):=by
 have fv:s.aR.length<=1000000000000000:=by have:=hw.2.1;omega
 have gz:s.bI.length<=1000000000000000:=by have:=hw.2.2.2.2.2.2.1;omega
 have mG:s.cD.length<=1000000000000000:=by have:=hw.2.2.2.2.1;omega
 have J:=Dc s.cD hw.2.2.2.2.2.1 (by have:=hw.2.2.2.2.1;omega);have aa:=fun n=>VM s.bI n hw.2.2.2.2.2.2.1
 refine aH Tryz.func137 ?_;refine gW ?_;refine nW ?_;(repeat' first|(refine q5 ?_;(and_intros <;> intros))|fail);refine nX ?_;refine je (fun ok:Bool=>⟨[(1,.ptr 0 0 0 0),(2,I 0),(3,ab ok)],[(0,some (.box 43 (iB s)))],1,Tryz.f137.ntmps⟩) (fun ok=>ok=true ↔ ku s /\ ¬ s.c9 ∈ s.bI) ?_ ?_
 ·(repeat' first|(refine h4 (hW _ _) (ht:=?_) (hff:=?_) <;> intro _ <;> try (exfalso;omega))|(refine h5 (hW _ _) (ht:=?_) (hff:=?_) <;> intro _ <;> try (exfalso;omega))|refine bh J ?_|(refine h4 (aa _) (ht:=?_) (hff:=?_) <;> intro _ <;> try (exfalso;omega))|(refine h5 (aa _) (ht:=?_) (hff:=?_) <;> intro _ <;> try (exfalso;omega))|(refine ay ?_;(and_intros <;> intros))|fail)
  all_goals first
   | (exact⟨true,(by exact⟨fun _=>⟨(by unfold ku;omega),by assumption⟩,fun _=>rfl⟩),ba⟩)
   | (exact⟨false,(by exact⟨(fun h=>by cases h),fun h=>(by obtain ⟨h,az⟩:=h;unfold ku at h;first|(exfalso;omega)|exact absurd cu az)⟩),ba⟩)
 rintro ok bP;(try refine ay ?_;and_intros <;> intros);refine cv (fun x:Nat×Bool=>⟨[(1,.ptr 0 0 0 0),(2,I 0),(3,ab x.2),(56,.ro (s.aR.map bC)),(57,I s.aR.length),(58,I x.1)],[(0,some (.box 43 (iB s)))],1,Tryz.f137.ntmps⟩)
   (fun x=>x.1<=s.aR.length/\(x.2=true ↔ (ku s /\ ¬ s.c9 ∈ s.bI)/\eu (mx s) x.1)) (fun x=>s.aR.length - x.1) (0,ok) ⟨cm _,by rw[bP];exact⟨fun h=>⟨h,lP⟩,fun h=>h.1⟩⟩ dV ?_
 rintro ⟨k,ok⟩ ⟨ag,hi⟩;dsimp only at ag hi ⊢;by_cases au:k<s.aR.length
 ·cases ok
  ·have hi:¬ ((ku s /\ ¬ s.c9 ∈ s.bI)/\eu (mx s) k):=fun h=>by have:=hi.2 h;cases this
   (try refine ay ?_;and_intros <;> intros)
   all_goals (exact⟨(k+1,false),b4,⟨au,(fun h=>by cases h),fun h=>absurd ⟨h.1,(iQ.1 h.2).1⟩ hi⟩,ba⟩)
  ·obtain ⟨hh,br⟩:=hi.1 rfl;have p1:=hh.1;unfold ku at p1;have hq:mx s k ↔ mx s k:=Iff.rfl
   conv at hq=>rhs;unfold mx
   by_cases qZ:k=0
   ·(refine PQ ?_;and_intros <;> intros)
    all_goals first
     | (exact⟨(k+1,true),b4,⟨au,fun _=>⟨hh,iQ.2 ⟨br,hq.2 ⟨by omega,by omega,by omega,by omega,by omega,by omega,by assumption,by omega⟩⟩⟩,fun _=>rfl⟩,ba⟩)
     | (exact⟨(k+1,false),b4,QE,ba⟩)
   ·(refine PQ ?_;and_intros <;> intros)
    all_goals first
     | (exact⟨(k+1,true),b4,⟨au,fun _=>⟨hh,iQ.2 ⟨br,hq.2 ⟨by omega,by omega,by omega,by omega,by omega,by omega,by assumption,by omega⟩⟩⟩,fun _=>rfl⟩,ba⟩)
     | (exact⟨(k+1,false),b4,QE,ba⟩)
 ·have ca:k=s.aR.length:=by omega
  subst ca;(try refine ay ?_;and_intros <;> intros);refine cv (fun x:Nat×Bool=>⟨[(1,.ptr 0 0 0 0),(2,I 0),(3,ab x.2),(108,.ro (s.bI.map encI)),(109,I s.bI.length),(110,I x.1)],[(0,some (.box 43 (iB s)))],1,Tryz.f137.ntmps⟩)
   (fun x=>x.1<=s.bI.length/\(x.2=true ↔ ((ku s /\ ¬ s.c9 ∈ s.bI)/\eu (mx s) s.aR.length)/\eu (o0 s) x.1)) (fun x=>s.bI.length - x.1) (0,ok) ⟨cm _,by rw[hi];exact⟨fun h=>⟨h,lP⟩,fun h=>h.1⟩⟩ dV ?_
  rintro ⟨k,ok⟩ ⟨ag,hi⟩;dsimp only at ag hi ⊢;by_cases au:k<s.bI.length
  ·cases ok
   ·have hi:¬ (((ku s /\ ¬ s.c9 ∈ s.bI)/\eu (mx s) s.aR.length)/\eu (o0 s) k):=fun h=>by have:=hi.2 h;cases this
    (try refine ay ?_;and_intros <;> intros)
    all_goals (exact⟨(k+1,false),b4,⟨au,(fun h=>by cases h),fun h=>absurd ⟨h.1,(iQ.1 h.2).1⟩ hi⟩,ba⟩)
   ·obtain ⟨hh,br⟩:=hi.1 rfl;have p1:=hh.1.1;unfold ku at p1;have hq:o0 s k ↔ o0 s k:=Iff.rfl
    conv at hq=>rhs;unfold o0
    by_cases qZ:k=0
    ·(refine mc ?_;and_intros <;> intros)
     all_goals first
      | (exact⟨(k+1,true),b4,⟨au,fun _=>⟨hh,iQ.2 ⟨br,hq.2 ⟨by omega,by omega,by omega⟩⟩⟩,fun _=>rfl⟩,ba⟩)
      | (exact⟨(k+1,false),b4,Ia,ba⟩)
    ·(refine mc ?_;and_intros <;> intros)
     all_goals first
      | (exact⟨(k+1,true),b4,⟨au,fun _=>⟨hh,iQ.2 ⟨br,hq.2 ⟨by omega,by omega,by omega⟩⟩⟩,fun _=>rfl⟩,ba⟩)
      | (exact⟨(k+1,false),b4,Ia,ba⟩)
  ·have ca:k=s.bI.length:=by omega
   subst ca
   cases ok
   ·have hi:¬ tK s:=fun h=>by have:=hi.2 ⟨⟨h.1,h.2.1⟩,h.2.2⟩;cases this
    (try refine ay ?_;and_intros <;> intros)
    all_goals exact bX (hr:=by rw[H8 hi])
   ·have hh:=hi.1 rfl;(try refine ay ?_;and_intros <;> intros)
    all_goals exact bX (hr:=by rw[Of ⟨hh.1.1,hh.1.2,hh.2⟩])
end Go.Proofs.YtendheafcbickaaGreat
