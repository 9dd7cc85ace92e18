/-
  SEVERAL TEXTS IN ONE: each with its own comment.
-/
import Derived.Test.YtendheafcbickaaGreatCRgs
set_option linter.unusedVariables false
set_option linter.unusedSimpArgs false
set_option maxHeartbeats 16000000
namespace Go.Proofs.YtendheafcbickaaGreat
variable {k:Nat} {s:ey}
section
set_option maxRecDepth 100000
attribute [local irreducible] cE a6 bu GStep Fn cg bf
theorem zH (l m:List UInt8):Fn Tryz.prog 47 [.ro (l.map bm),.ro (m.map bm)] (ab (yes (l=m))):=by
 refine aH Tryz.func47 ?_;(try refine ay ?_;and_intros <;> intros)
 all_goals refine bX (hr:=?_)
 ·exact rH cu
 ·exact oy cu
theorem VL {l:List Int} {n:Int} (h:k<l.length):n ∈ l.take (k+1) ↔ n ∈ l.take k\/n=l.getD k default:=by
 rw[mN h,gr,iX]
theorem Dw (s:ey) (n:Int) (hw:gM s):Fn Tryz.prog 238 [.agg (iB s),I n] (ab (decide (n ∈ s.bI))):=by
 have ao:s.bI.length<=1000000000000000:=by have:=hw.2.2.2.2.2.2.1;omega
 refine aH Tryz.func238 ?_;(try refine ay ?_;and_intros <;> intros);refine cv (fun k:Nat=>⟨[(1,I n),(8,.ro (s.bI.map encI)),(9,I s.bI.length),(10,I k)],[],0,Tryz.f238.ntmps⟩)
  (fun k=>k<=s.bI.length /\ ¬ n ∈ s.bI.take k) (fun k=>s.bI.length - k) 0 ⟨cm _,by simp⟩ dV ?_
 rintro k ⟨ag,hn⟩;by_cases au:k<s.bI.length
 ·(try refine ay ?_;and_intros <;> intros)
  all_goals first
   | (exact⟨k+1,(by omega),Oe,ba⟩)
   | (refine bX (hr:=?_);rw[decide_eq_true (by have h:=cc au;rwa [show s.bI.getD k default=n by assumption] at h)])
 ·(try refine ay ?_;and_intros <;> intros)
  all_goals (refine bX (hr:=?_);rw[decide_eq_false (by rw[j9 (by omega)] at hn;exact hn)])
theorem VM (l:List Int) (n:Int) (ao:l.length * 8<=140737488351232):Fn Tryz.prog 254 [.ro (l.map encI),I n] (ab (decide (n ∈ l))):=by
 refine aH Tryz.func254 ?_;(try refine ay ?_;and_intros <;> intros);refine cv (fun k:Nat=>⟨[(1,I n),(7,.ro (l.map encI)),(8,I l.length),(9,I k)],[],0,Tryz.f254.ntmps⟩)
  (fun k=>k<=l.length /\ ¬ n ∈ l.take k) (fun k=>l.length - k) 0 ⟨cm _,by simp⟩ dV ?_
 rintro k ⟨ag,hn⟩;by_cases au:k<l.length
 ·(try refine ay ?_;and_intros <;> intros)
  all_goals first
   | (exact⟨k+1,(by omega),Oe,ba⟩)
   | (refine bX (hr:=?_);rw[decide_eq_true (by have h:=cc au;rwa [show l.getD k default=n by assumption] at h)])
 ·(try refine ay ?_;and_intros <;> intros)
  all_goals (refine bX (hr:=?_);rw[decide_eq_false (by rw[j9 (by omega)] at hn;exact hn)])
def mx (s:ey) (i:Nat):Prop:=0<=(s.aR.getD i default).Number/\(s.aR.getD i default).Number<s.Next/\0<=(s.aR.getD i default).Time/\(s.aR.getD i default).Time<=1099511627776/\0<=(s.aR.getD i default).hG/\(s.aR.getD i default).hG<=400 /\
 ¬ (s.aR.getD i default).Number ∈ s.bI/\(i=0\/(s.aR.getD (i - 1) default).Number<(s.aR.getD i default).Number)
def o0 (s:ey) (i:Nat):Prop:=0<=s.bI.getD i default/\s.bI.getD i default<s.Next/\(i=0\/s.bI.getD (i - 1) default<s.bI.getD i default)
def ku (s:ey):Prop:=0<=s.Next/\s.Next<=4611686018427387903 /\ -1<=s.c9/\s.c9<s.Next/\s.aR.length<=24/\s.cD.length<=6/\gi s.cD=0/\s.bI.length<=6
def tK (s:ey):Prop:=(ku s /\ ¬ s.c9 ∈ s.bI)/\eu (mx s) s.aR.length/\eu (o0 s) s.bI.length
open Classical in
noncomputable def lf (s:ey):Int:=if tK s then 0 else 9
theorem r8 (s:ey):(lf s=0/\tK s)\/(lf s=9 /\ ¬ tK s):=by
 unfold lf;by_cases h:tK s
 ·exact .inl ⟨al h,h⟩
 ·exact .inr ⟨ah h,h⟩
theorem Of (h:tK s):lf s=0:=al h
theorem H8 (h:¬ tK s):lf s=9:=ah h
def vq (s:ey) (k:Nat):Int:=if k=0 then -1 else(s.aR.getD (k - 1) default).Number
def vr (s:ey) (k:Nat):Int:=if k=0 then -1 else s.bI.getD (k - 1) default
theorem VN (h:eu (mx s) k) : -1<=vq s k:=by
 unfold vq;split
 ·omega
 ·have:=(h (k - 1) (by omega)).1;omega
theorem VO (h:eu (o0 s) k) : -1<=vr s k:=by
 unfold vr;split
 ·omega
 ·have:=(h (k - 1) (by omega)).1;omega
theorem VP (s:ey) (k:Nat):vq s (k+1)=(s.aR.getD k default).Number:=by unfold vq;rw[ah (by omega),Nat.add_sub_cancel]
theorem VQ (s:ey) (k:Nat):vr s (k+1)=s.bI.getD k default:=by unfold vr;rw[ah (by omega),Nat.add_sub_cancel]
theorem VR (h:eu (mx s) k):mx s k ↔ (vq s k<(s.aR.getD k default).Number/\(s.aR.getD k default).Number<s.Next/\0<=(s.aR.getD k default).Time/\(s.aR.getD k default).Time<=1099511627776/\0<=(s.aR.getD k default).hG/\(s.aR.getD k default).hG<=400 /\ ¬ (s.aR.getD k default).Number ∈ s.bI):=by
 have ar:=VN h;unfold mx;unfold vq at *;by_cases ag:k=0
 ·rw[al ag];exact⟨fun ⟨a,b,c,d,e,f,g,_⟩=>⟨by omega,b,c,d,e,f,g⟩,fun ⟨a,b,c,d,e,f,g⟩=>⟨by omega,b,c,d,e,f,g,.inl ag⟩⟩
 ·rw[ah ag] at *;exact⟨fun ⟨a,b,c,d,e,f,g,q⟩=>⟨by omega,b,c,d,e,f,g⟩,fun ⟨a,b,c,d,e,f,g⟩=>⟨by omega,b,c,d,e,f,g,.inr a⟩⟩
theorem VS (h:eu (o0 s) k):o0 s k ↔ (vr s k<s.bI.getD k default/\s.bI.getD k default<s.Next):=by
 have ar:=VO h;unfold o0;unfold vr at *;by_cases ag:k=0
 ·rw[al ag];exact⟨fun ⟨a,b,_⟩=>⟨by omega,b⟩,fun ⟨a,b⟩=>⟨by omega,b,.inl ag⟩⟩
 ·rw[ah ag] at *;exact⟨fun ⟨a,b,q⟩=>⟨by omega,b⟩,fun ⟨a,b⟩=>⟨by omega,b,.inr a⟩⟩
theorem G0 (s:ey) (hw:gM s):Fn Tryz.prog 117 [.agg (iB s)] (I (lf s)):=by
 have fv:s.aR.length<=1000000000000000:=by have:=hw.2.1;omega
 have gz:s.bI.length<=1000000000000000:=by have:=hw.2.2.2.2.2.2.1;omega
 have mG:s.cD.length<=1000000000000000:=by have:=hw.2.2.2.2.1;omega
 have J:=wj s.cD hw.2.2.2.2.2.1 (by have:=hw.2.2.2.2.1;omega);refine aH Tryz.func117 ?_;refine gW ?_;refine nW ?_;(repeat' first|(refine q5 ?_;(and_intros <;> intros))|fail);refine nX ?_;refine je (fun ok:Bool=>⟨[(1,.ptr 0 0 0 0),(2,I 0),(3,ab ok)],[(0,some (.box 43 (iB s)))],1,Tryz.f117.ntmps⟩) (fun ok=>ok=true ↔ ku s) ?_ ?_
 ·(refine bH J ?_;and_intros <;> intros)
  all_goals first
   | (exact⟨true,(by exact⟨fun _=>(by unfold ku;omega),fun _=>rfl⟩),ba⟩)
   | (exact⟨false,(by exact⟨(fun h=>by cases h),fun h=>(by unfold ku at h;omega)⟩),ba⟩)
 rintro ok bP;(try refine ay ?_;and_intros <;> intros);refine cv (fun x:Nat×Bool=>⟨[(1,.ptr 0 0 0 0),(2,I 0),(3,ab x.2),(4,I (vq s x.1)),(54,.ro (s.aR.map bC)),(55,I s.aR.length),(56,I x.1)],[(0,some (.box 43 (iB s)))],1,Tryz.f117.ntmps⟩)
   (fun x=>x.1<=s.aR.length/\(x.2=true ↔ ku s/\eu (mx s) x.1)) (fun x=>s.aR.length - x.1) (0,ok) ⟨cm _,by rw[bP];exact⟨fun h=>⟨h,lP⟩,fun h=>h.1⟩⟩ dV ?_
 rintro ⟨k,ok⟩ ⟨ag,hi⟩;dsimp only at ag hi ⊢;by_cases au:k<s.aR.length
 ·have VT:=VP s k
  cases ok
  ·have hi:¬ (ku s/\eu (mx s) k):=fun h=>by have:=hi.2 h;cases this
   (try refine ay ?_;and_intros <;> intros)
   all_goals (exact⟨(k+1,false),b4,⟨au,(fun h=>by cases h),fun h=>absurd ⟨h.1,(iQ.1 h.2).1⟩ hi⟩,ba⟩)
  ·obtain ⟨hh,br⟩:=hi.1 rfl;have hq:=VR br;(repeat' first|(refine h4 (Dw s _ hw) (ht:=?_) (hff:=?_) <;> intro _ <;> try (exfalso;omega))|(refine h5 (Dw s _ hw) (ht:=?_) (hff:=?_) <;> intro _ <;> try (exfalso;omega))|(refine ay ?_;(and_intros <;> intros))|fail)
   all_goals first
    | (exact⟨(k+1,true),b4,⟨au,fun _=>⟨hh,iQ.2 ⟨br,hq.2 ⟨by omega,by omega,by omega,by omega,by omega,by omega,by assumption⟩⟩⟩,fun _=>rfl⟩,ba⟩)
    | (exact⟨(k+1,false),b4,(by refine ⟨au,(fun h=>by cases h),fun h=>?_⟩;obtain ⟨aL,aS,bi,cq,e3,H9,zI⟩:=hq.1 (iQ.1 h.2).2;first|(exfalso;omega)|exact absurd cu zI),ba⟩)
 ·have ca:k=s.aR.length:=by omega
  subst ca;(try refine ay ?_;and_intros <;> intros);refine cv (fun x:Nat×Bool=>⟨[(1,.ptr 0 0 0 0),(2,I 0),(3,ab x.2),(4,I (vr s x.1)),(105,.ro (s.bI.map encI)),(106,I s.bI.length),(107,I x.1)],[(0,some (.box 43 (iB s)))],1,Tryz.f117.ntmps⟩)
   (fun x=>x.1<=s.bI.length/\(x.2=true ↔ (ku s/\eu (mx s) s.aR.length)/\eu (o0 s) x.1)) (fun x=>s.bI.length - x.1) (0,ok) ⟨cm _,by rw[hi];exact⟨fun h=>⟨h,lP⟩,fun h=>h.1⟩⟩ dV ?_
  rintro ⟨k,ok⟩ ⟨ag,hi⟩;dsimp only at ag hi ⊢;by_cases au:k<s.bI.length
  ·have VT:=VQ s k
   cases ok
   ·have hi:¬ ((ku s/\eu (mx s) s.aR.length)/\eu (o0 s) k):=fun h=>by have:=hi.2 h;cases this
    (try refine ay ?_;and_intros <;> intros)
    all_goals (exact⟨(k+1,false),b4,⟨au,(fun h=>by cases h),fun h=>absurd ⟨h.1,(iQ.1 h.2).1⟩ hi⟩,ba⟩)
   ·obtain ⟨hh,br⟩:=hi.1 rfl;have hq:=VS br;(try refine ay ?_;and_intros <;> intros)
    all_goals first
     | (exact⟨(k+1,true),b4,⟨au,fun _=>⟨hh,iQ.2 ⟨br,hq.2 ⟨by omega,by omega⟩⟩⟩,fun _=>rfl⟩,ba⟩)
     | (exact⟨(k+1,false),b4,Ia,ba⟩)
  ·have ca:k=s.bI.length:=by omega
   subst ca
   cases ok
   ·have hi:¬ tK s:=fun h=>by have:=hi.2 ⟨⟨h.1.1,h.2.1⟩,h.2.2⟩;cases this
    (try refine ay ?_;and_intros <;> intros)
    all_goals exact bX (hr:=by rw[H8 hi])
   ·have hh:=hi.1 rfl;(repeat' first|(refine h4 (Dw s _ hw) (ht:=?_) (hff:=?_) <;> intro _ <;> try (exfalso;omega))|(refine h5 (Dw s _ hw) (ht:=?_) (hff:=?_) <;> intro _ <;> try (exfalso;omega))|(refine ay ?_;(and_intros <;> intros))|fail)
    all_goals first
     | exact bX (hr:=by rw[Of ⟨⟨hh.1.1,by assumption⟩,hh.1.2,hh.2⟩])
     | exact bX (hr:=by rw[H8 (fun h=>absurd cu h.1.2)])
end
end Go.Proofs.YtendheafcbickaaGreat
