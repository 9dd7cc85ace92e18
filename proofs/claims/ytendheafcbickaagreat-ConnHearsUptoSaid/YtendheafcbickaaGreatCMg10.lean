/-
  SEVERAL TEXTS IN ONE: each with its own comment.
-/
import Derived.Test.YtendheafcbickaaGreatCMg08
import Derived.Test.YtendheafcbickaaGreatCSndC
import Derived.Test.YtendheafcbickaaGreatCFrC
set_option linter.unusedVariables false
set_option linter.unusedSimpArgs false
set_option maxHeartbeats 16000000
namespace Go.Proofs.YtendheafcbickaaGreat
section
set_option maxRecDepth 100000
attribute [local irreducible] cE a6 bu GStep Fn cg bf
def mP (p:gA):Prop:=200<=p.bj/\p.bj<=1099511627776/\0<=p.dy/\p.dy<=1099511627776/\0<=p.c0/\p.c0<=1099511627776 /\ -1<=p.Since/\p.Since<=1099511627776
instance (p:gA):Decidable (mP p):=inferInstanceAs (Decidable (_/\_))
def sv (p:gA):Int:=if mP p then 0 else 9
def mQ (x:Int):Prop:=0<=x/\x<=1099511627776
instance (x:Int):Decidable (mQ x):=inferInstanceAs (Decidable (_/\_))
def lg (p:gA) (l:List Int):Int:=if mP p then(if ∀ x ∈ l,mQ x then 0 else 6) else 9
theorem HZ (p:gA):Fn Tryz.prog 118 [.agg (nz p)] (I (sv p)):=by
 refine aH Tryz.func118 ?_;(try refine ay ?_;and_intros <;> intros)
 all_goals (refine bX (hr:=?_);unfold sv)
 all_goals first
  | rw[al (by unfold mP;omega)]
  | rw[ah (by unfold mP;omega)]
theorem LO (p:gA) (hw:h2 p):Fn Tryz.prog 138 [.agg (nz p)] (I (sv p)):=by
 unfold h2 aE at hw;have aw:p.Since≠9223372036854775807\/(p.Since=9223372036854775807/\IntKind.i64.wrap (p.Since+1) = -9223372036854775808):=by
  by_cases h:p.Since=9223372036854775807
  ·right;rw[h];exact⟨rfl,rfl⟩
  ·exact .inl h
 rcases aw with aw|aw
 all_goals
  refine aH Tryz.func138 ?_;(refine mc ?_;and_intros <;> intros)
  all_goals (refine bX (hr:=?_);unfold sv)
  all_goals first
   | rw[al (by unfold mP;omega)]
   | rw[ah (by unfold mP;omega)]
theorem M9 (p:gA) (l:List Int) (ao:l.length<=100):Fn Tryz.prog 277 [.agg (nz p),.ro (l.map encI)] (I (lg p l)):=by
 unfold lg;by_cases ae:mP p
 ·have J:=HZ p;rw[show sv p=0 from al ae] at J;rw[al ae];refine aH Tryz.func277 ?_;(refine bH J ?_;and_intros <;> intros);refine cv (fun k:Nat=>⟨[(1,.ro (l.map encI)),(13,.ro (l.map encI)),(14,I l.length),(15,I k)],[],0,Tryz.f277.ntmps⟩)
   (fun k=>k<=l.length /\ ∀ x ∈ l.take k,mQ x) (fun k=>l.length - k) 0 ⟨cm _,by simp⟩ dV ?_
  rintro k ⟨ag,ht⟩;by_cases au:k<l.length
  ·(try refine ay ?_;and_intros <;> intros)
   all_goals first
    | (exact⟨k+1,(by omega),(by exact⟨au,N0 au ht (by unfold mQ;omega)⟩),ba⟩)
    | (refine bX (hr:=?_);rw[ah (fun h=>?_)];have:=h _ (cc au);unfold mQ at this;omega)
  ·(try refine ay ?_;and_intros <;> intros)
   all_goals (refine bX (hr:=?_);rw[al (by rw[j9 (by omega)] at ht;exact ht)])
 ·have J:=HZ p;rw[show sv p=9 from ah ae] at J;rw[ah ae];refine aH Tryz.func277 ?_;(refine bH J ?_;and_intros <;> intros)
  all_goals exact bX (hr:=rfl)
theorem Na (p:gA) (hw:h2 p) (l:List Int) (ao:l.length<=100):Fn Tryz.prog 282 [.agg (nz p),.ro (l.map encI)] (I (lg p l)):=by
 have J:=LO p hw;unfold lg;by_cases ae:mP p
 ·rw[show sv p=0 from al ae] at J;rw[al ae];refine aH Tryz.func282 ?_;(refine bH J ?_;and_intros <;> intros);refine cv (fun x:Nat×Int=>⟨[(1,.ro (l.map encI)),(10,.ro (l.map encI)),(11,I l.length),(12,I x.1),(5,I x.2)],[],0,Tryz.f282.ntmps⟩)
   (fun x=>x.1<=l.length/\(x.2=0/\(∀ y ∈ l.take x.1,mQ y)\/x.2=6 /\ ¬ ∀ y ∈ l,mQ y)) (fun x=>l.length - x.1) (0,0) ⟨cm _,.inl ⟨rfl,by simp⟩⟩ dV ?_
  rintro ⟨k,e⟩ ⟨ag,ht⟩;dsimp only at ag ht ⊢;by_cases au:k<l.length
  ·rcases ht with⟨rfl,ht⟩ | ⟨rfl,ht⟩
   ·(refine mc ?_;and_intros <;> intros)
    all_goals first
     | (exact⟨(k+1,0),b4,(by exact⟨au,.inl ⟨rfl,N0 au ht (by unfold mQ;omega)⟩⟩),ba⟩)
     | (exact⟨(k+1,6),b4,(by refine ⟨au,.inr ⟨rfl,fun h=>?_⟩⟩;have:=h _ (cc au);unfold mQ at this;omega),ba⟩)
   ·(refine mc ?_;and_intros <;> intros)
    all_goals (exact⟨(k+1,6),b4,⟨au,.inr ⟨rfl,ht⟩⟩,ba⟩)
  ·rcases ht with⟨rfl,ht⟩ | ⟨rfl,ht⟩
   ·(try refine ay ?_;and_intros <;> intros)
    all_goals (refine bX (hr:=?_);rw[al (by rw[j9 (by omega)] at ht;exact ht)])
   ·(try refine ay ?_;and_intros <;> intros)
    all_goals (refine bX (hr:=?_);rw[ah ht])
 ·rw[show sv p=9 from ah ae] at J;rw[ah ae];refine aH Tryz.func282 ?_;(refine bH J ?_;and_intros <;> intros);refine cv (fun k:Nat=>⟨[(1,.ro (l.map encI)),(10,.ro (l.map encI)),(11,I l.length),(12,I k),(5,I 9)],[],0,Tryz.f282.ntmps⟩)
   (fun k=>k<=l.length) (fun k=>l.length - k) 0 (cm _) dV ?_
  intro k ag;by_cases au:k<l.length
  ·(refine mc ?_;and_intros <;> intros)
   all_goals (exact⟨k+1,(by omega),au,ba⟩)
  ·(try refine ay ?_;and_intros <;> intros)
   all_goals exact bX (hr:=rfl)
def qd (p:gA) (n s t:Int):gA×Int:=
 if lg p [n,s,t]≠0 then(⟨0,0,0,0⟩,lg p [n,s,t])
 else if p.c0<n then(⟨0,0,0,0⟩,13)
 else if s<=p.Since then(⟨p.bj,p.dy,p.c0 - n,p.Since⟩,0)
 else(⟨max (p.bj / 2) 200,max (p.bj / 2) 200,p.c0 - n,max t s⟩,0)
theorem w2 {p:gA} {l:List Int} (h:lg p l=0):mP p /\ ∀ x ∈ l,mQ x:=by
 unfold lg at h;split at h
 ·rename_i J;split at h
  ·rename_i aa;exact⟨J,aa⟩
  ·omega
 ·omega
theorem Tf (p:gA) (n s t:Int):Fn Tryz.prog 231 [.agg (nz p),I n,I s,I t] (.bN [.agg (nz (qd p n s t).1),I (qd p n s t).2]):=by
 have J:=M9 p [n,s,t] (by simp);unfold qd;by_cases ai:lg p [n,s,t]=0
 ·obtain ⟨ae,ao⟩:=w2 ai;rw[ai] at J ⊢;rw[ah (by omega)];unfold mP at ae;have br:=ao n (by simp);have hb:=ao s (by simp);have hc:=ao t (by simp);unfold mQ at br hb hc;refine aH Tryz.func231 ?_;(refine bH J ?_;and_intros <;> intros)
  all_goals (refine bX (hr:=?_))
  all_goals first
   | (rw[al (by omega)];rfl)
   | (rw[ah (by omega),al (by omega)];rfl)
   | (rw[ah (by omega),ah (by omega)];rfl)
 ·rw[al ai];generalize lg p [n,s,t]=e at *;refine aH Tryz.func231 ?_;(refine bH J ?_;and_intros <;> intros)
  all_goals (refine bX (hr:=?_);rfl)
theorem Vt (p:gA) (hw:h2 p) (n s t:Int):Fn Tryz.prog 234 [.agg (nz p),I n,I s,I t] (.bN [.agg (nz (qd p n s t).1),I (qd p n s t).2]):=by
 have J:=Na p hw [n,s,t] (by simp);unfold qd;by_cases ai:lg p [n,s,t]=0
 ·obtain ⟨ae,ao⟩:=w2 ai;rw[ai] at J ⊢;rw[ah (by omega)];unfold mP at ae;have br:=ao n (by simp);have hb:=ao s (by simp);have hc:=ao t (by simp);unfold mQ at br hb hc;refine aH Tryz.func234 ?_;(refine bH J ?_;and_intros <;> intros)
  all_goals (refine bX (hr:=?_))
  all_goals first
   | (rw[al (by omega)];rfl)
   | (rw[ah (by omega),al (by omega)];rfl)
   | (rw[ah (by omega),ah (by omega),Int.max_comm _ 200,Int.max_comm t s];rfl)
 ·rw[al ai];generalize lg p [n,s,t]=e at *;refine aH Tryz.func234 ?_;(refine bH J ?_;and_intros <;> intros)
  all_goals (refine bX (hr:=?_);rfl)
end
section
set_option maxRecDepth 100000
attribute [local irreducible] cE a6 bu GStep Fn cg bf cA
def mF (c:aG):Prop:=lf c.aQ=0/\sv c.cy=0/\tG c.di=0/\tG c.eh=0
def nh (c:aG):Prop:=0<=c.gQ/\c.gQ<=4611686018427387903/\0<=c.gR/\c.gR<=4611686018427387903/\0<=c.cN/\(c.cN<=c.gQ\/c.cN<=c.gR)/\c.aq.length<=4/\c.Queue.length<=12/\0<=c.dT/\c.dT<=1099511627776/\0<=c.gP/\c.gP<=4
def lm (l:List cS) (i:Nat):Int:=if i=0 then -1 else(l.getD (i - 1) default).Id
theorem F1 (l:List cS):lm l 0 = -1:=rfl
theorem Cd (l:List cS) (i:Nat):lm l (i+1)=(l.getD i default).Id:=by
 unfold lm;rw[ah (by omega),Nat.add_sub_cancel]
def ni (c:aG) (i:Nat):Prop:=lm c.aq i<(c.aq.getD i default).Id/\(c.aq.getD i default).Id<c.cN/\ev (c.aq.getD i default).In=0/\lE (c.aq.getD i default).Out=0/\(c.aq.getD i default).Read.length<=800
def pu (l:List bo) (n:Nat):Prop:=eu (fun i=>gx (l.getD i default)=0) n
def s0 (c:aG):Prop:=(((mF c/\nh c)/\eu (ni c) c.aq.length)/\pu c.Queue c.Queue.length)/\eu (fun i=>pu (c.aQ.aR.getD i default).Frames (c.aQ.aR.getD i default).Frames.length) c.aQ.aR.length
noncomputable def nj (c:aG):Int:=if yes (s0 c)=true then 0 else 9
theorem F5 {c:aG} (h:s0 c):nj c=0:=al (j6 h)
theorem F4 {c:aG} (h:¬ s0 c):nj c=9:=ah (by rw[jM h];exact iS)
theorem Gk (c:aG):(nj c=0/\s0 c)\/(nj c=9 /\ ¬ s0 c):=by
 by_cases h:s0 c
 ·exact .inl ⟨F5 h,h⟩
 ·exact .inr ⟨F4 h,h⟩
theorem U5 (c:aG) (hw:fw c):Fn Tryz.prog 58 [.agg (cj c)] (I (nj c)):=by
 obtain ⟨w0,c4,du,w3,e9,fa,gy,hL,ki,oK,kj,lW,lX,nV⟩:=hw;have gz:c.aQ.aR.length<=1000000000000000:=by have:=w0.2.1;omega
 have mG:∀ y,y ∈ c.aQ.aR->ji y:=w0.2.2.1;have J:=G0 c.aQ w0;have aa:=HZ c.cy;have az:=CP c.di;have bk:=CP c.eh;clear w0 c4 du w3;unfold aE at e9 fa gy lW lX nV;refine aH Tryz.func58 ?_;refine gW ?_;refine nW ?_;(repeat' first|(refine q5 ?_;(and_intros <;> intros))|fail);refine nX ?_;refine je (fun ok:Bool=>⟨[(1,.ptr 0 0 0 0),(2,I 0),(3,ab ok)],[(0,some (.box 51 (cj c)))],1,Tryz.f58.ntmps⟩) (fun ok=>ok=true ↔ mF c) ?_ ?_
 ·unfold mF;(refine yX J aa az bk ?_;and_intros <;> intros)
  all_goals first|exact F0|skip
 rintro ok bP;clear J aa az bk;refine je (fun ok:Bool=>⟨[(1,.ptr 0 0 0 0),(2,I 0),(3,ab ok)],[(0,some (.box 51 (cj c)))],1,Tryz.f58.ntmps⟩) (fun ok=>ok=true ↔ mF c/\nh c) ?_ ?_
 ·unfold nh
  cases ok
  ·have hn:¬ mF c:=fun h=>by have:=bP.2 h;cases this
   clear bP;(try refine ay ?_;and_intros <;> intros)
   all_goals first
    | (exact⟨false,⟨(fun h=>by cases h),fun h=>absurd h.1 hn⟩,ba⟩)
    | skip
  ·have hn:=bP.1 rfl;clear bP;(try refine ay ?_;and_intros <;> intros)
   all_goals first
    | (exact⟨true,⟨fun _=>⟨hn,by omega⟩,fun _=>rfl⟩,ba⟩)
    | (exact⟨false,(by exact⟨(fun h=>by cases h),fun h=>(by have:=h.2;omega)⟩),ba⟩)
    | skip
 clear ok bP e9 fa gy lW lX nV;rintro ok bP;have hK:c.aq.length<=1000000000000000:=by omega
 have FY:c.Queue.length<=1000000000000000:=by omega
 clear hL oK;(try refine ay ?_;and_intros <;> intros);refine cv (fun x:Nat×Bool=>⟨[(1,.ptr 0 0 0 0),(2,I 0),(3,ab x.2),(4,I (lm c.aq x.1)),(104,.ro (c.aq.map eo)),(105,I c.aq.length),(106,I x.1)],[(0,some (.box 51 (cj c)))],1,Tryz.f58.ntmps⟩)
  (fun x=>x.1<=c.aq.length/\(x.2=true ↔ (mF c/\nh c)/\eu (ni c) x.1)) (fun x=>c.aq.length - x.1) (0,ok) ⟨cm _,by rw[bP];exact⟨fun h=>⟨h,lP⟩,fun h=>h.1⟩⟩ (by(try dsimp only);rw[F1];(exact ba)) ?_
 clear ok bP;rintro ⟨k,ok⟩ ⟨ag,hi⟩;dsimp only at ag hi ⊢;by_cases au:k<c.aq.length
 ·have aw:=iQ (Q:=ni c) (k:=k);have ar:=Cd c.aq k;have uI:=ki _ (cc au);have J:=CC _ uI.2.1;have aa:=CF _ uI.2.2.2;have S0:=uI.2.2.1
  cases ok
  ·have hi:¬ ((mF c/\nh c)/\eu (ni c) k):=fun h=>by have:=hi.2 h;cases this
   generalize lm c.aq k=Vu;(try refine ay ?_;and_intros <;> intros)
   all_goals first|exact ys|skip
  ·obtain ⟨hh,br⟩:=hi.1 rfl;unfold ni at aw;generalize lm c.aq k=Vu at *;(refine jJ J aa ?_;and_intros <;> intros)
   all_goals first
    | (exact⟨(k+1,true),b4,⟨au,fun _=>⟨hh,aw.2 ⟨br,by omega⟩⟩,fun _=>rfl⟩,ba⟩)
    | (exact⟨(k+1,false),b4,F2,ba⟩)
    | skip
 have ca:k=c.aq.length:=by omega
 subst ca;clear ki au ag;(try refine ay ?_;and_intros <;> intros);refine cv (fun x:Nat×Bool=>⟨[(1,.ptr 0 0 0 0),(2,I 0),(3,ab x.2),(146,.ro (c.Queue.map aO)),(147,I c.Queue.length),(148,I x.1)],[(0,some (.box 51 (cj c)))],1,Tryz.f58.ntmps⟩)
  (fun x=>x.1<=c.Queue.length/\(x.2=true ↔ ((mF c/\nh c)/\eu (ni c) c.aq.length)/\pu c.Queue x.1)) (fun x=>c.Queue.length - x.1) (0,ok) ⟨cm _,by rw[hi];exact⟨fun h=>⟨h,lP⟩,fun h=>h.1⟩⟩ wE ?_
 clear ok hi;rintro ⟨k,ok⟩ ⟨ag,hi⟩;dsimp only at ag hi ⊢;by_cases au:k<c.Queue.length
 ·have aw:=iQ (Q:=fun i=>gx (c.Queue.getD i default)=0) (k:=k);have J:=F6 _ (kj _ (cc au));unfold pu at hi
  cases ok
  ·have hi:¬ (((mF c/\nh c)/\eu (ni c) c.aq.length)/\eu (fun i=>gx (c.Queue.getD i default)=0) k):=fun h=>by have:=hi.2 h;cases this
   (try refine ay ?_;and_intros <;> intros)
   all_goals first|exact ys|skip
  ·obtain ⟨hh,br⟩:=hi.1 rfl;(refine bH J ?_;and_intros <;> intros)
   all_goals first|exact F3|skip
 have ca:k=c.Queue.length:=by omega
 subst ca;clear kj au ag;(try refine ay ?_;and_intros <;> intros);generalize an:(((mF c/\nh c)/\eu (ni c) c.aq.length)/\pu c.Queue c.Queue.length)=B at hi;refine cv (fun x:Nat×Bool=>⟨[(2,I 0),(3,ab x.2),(161,.ro (c.aQ.aR.map bC)),(162,I c.aQ.aR.length),(163,I x.1)],[],0,Tryz.f58.ntmps⟩)
  (fun x=>x.1<=c.aQ.aR.length/\(x.2=true ↔ B/\eu (fun i=>pu (c.aQ.aR.getD i default).Frames (c.aQ.aR.getD i default).Frames.length) x.1)) (fun x=>c.aQ.aR.length - x.1) (0,ok) ⟨cm _,by rw[hi];exact⟨fun h=>⟨h,lP⟩,fun h=>h.1⟩⟩ wE ?_
 clear ok hi;rintro ⟨k,ok⟩ ⟨ag,hi⟩;dsimp only at ag hi ⊢;by_cases au:k<c.aQ.aR.length
 ·have aw:=iQ (Q:=fun i=>pu (c.aQ.aR.getD i default).Frames (c.aQ.aR.getD i default).Frames.length) (k:=k);have oL:=mG _ (cc au);clear mG;obtain ⟨dg,db,gq,ka,hj⟩:=oL;have hI:(c.aQ.aR.getD k default).Frames.length<=1000000000000000:=by omega
  (try refine ay ?_;and_intros <;> intros);refine cv (fun x:Nat×Bool=>⟨[(2,I 0),(3,ab x.2),(161,.ro (c.aQ.aR.map bC)),(162,I c.aQ.aR.length),(163,I k),(168,.ro ((c.aQ.aR.getD k default).Frames.map aO)),(169,I (c.aQ.aR.getD k default).Frames.length),(170,I x.1)],[],0,Tryz.f58.ntmps⟩)
   (fun x=>x.1<=(c.aQ.aR.getD k default).Frames.length/\(x.2=true ↔ (B/\eu (fun i=>pu (c.aQ.aR.getD i default).Frames (c.aQ.aR.getD i default).Frames.length) k)/\pu (c.aQ.aR.getD k default).Frames x.1)) (fun x=>(c.aQ.aR.getD k default).Frames.length - x.1) (0,ok) ⟨cm _,by rw[hi];exact⟨fun h=>⟨h,lP⟩,fun h=>h.1⟩⟩ wE ?_
  clear ok hi;rintro ⟨j,ok⟩ ⟨ad,hi⟩;dsimp only at ad hi ⊢;by_cases fh:j<(c.aQ.aR.getD k default).Frames.length
  ·have aw:=iQ (Q:=fun i=>gx ((c.aQ.aR.getD k default).Frames.getD i default)=0) (k:=j);have J:=F6 _ (hj _ (cc fh));unfold pu at hi
   cases ok
   ·have hi:¬ ((B/\eu (fun i=>pu (c.aQ.aR.getD i default).Frames (c.aQ.aR.getD i default).Frames.length) k)/\eu (fun i=>gx ((c.aQ.aR.getD k default).Frames.getD i default)=0) j):=fun h=>by have:=hi.2 h;cases this
    (try refine ay ?_;and_intros <;> intros)
    all_goals first
     | (exact⟨(j+1,false),b4,⟨fh,(fun h=>by cases h),fun h=>absurd ⟨h.1,(aw.1 h.2).1⟩ hi⟩,ba⟩)
     | skip
   ·obtain ⟨hh,br⟩:=hi.1 rfl;(refine bH J ?_;and_intros <;> intros)
    all_goals first
     | (exact⟨(j+1,true),b4,⟨fh,fun _=>⟨hh,aw.2 ⟨br,by assumption⟩⟩,fun _=>rfl⟩,ba⟩)
     | (exact⟨(j+1,false),b4,(by exact⟨fh,(fun h=>by cases h),fun h=>(by have aa:=(aw.1 h.2).2;(try dsimp only at aa);omega)⟩),ba⟩)
     | skip
  have nR:j=(c.aQ.aR.getD k default).Frames.length:=by omega
  subst nR;(try refine ay ?_;and_intros <;> intros)
  all_goals first
   | (exact⟨(k+1,ok),b4,(by exact⟨au,by rw[hi,aw];exact⟨fun h=>⟨h.1.1,h.1.2,h.2⟩,fun h=>⟨⟨h.1,h.2.1⟩,h.2.2⟩⟩⟩),ba⟩)
   | skip
 have ca:k=c.aQ.aR.length:=by omega
 subst ca;subst an
 cases ok
 ·rw[F4 (fun h=>by have:=hi.2 h;cases this)];(try refine ay ?_;and_intros <;> intros)
  all_goals exact bX (hr:=rfl)
 ·rw[F5 (hi.1 rfl)];(try refine ay ?_;and_intros <;> intros)
  all_goals exact bX (hr:=rfl)
end
end Go.Proofs.YtendheafcbickaaGreat
