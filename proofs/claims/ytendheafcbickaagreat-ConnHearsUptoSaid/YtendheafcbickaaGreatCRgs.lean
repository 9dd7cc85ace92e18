
import Derived.Test.YtendheafcbickaaGreatCUpTo
set_option linter.unusedVariables false
set_option linter.unusedSimpArgs false
set_option maxHeartbeats 16000000
namespace Go.Proofs.YtendheafcbickaaGreat
set_option maxRecDepth 100000
attribute [local irreducible] cE a6 bu GStep Fn cg bf
def b9 (r:aK):Prop:=0<=r.bE/\r.bE<=r.bz/\r.bz<=4611686018427387903
instance (r:aK):Decidable (b9 r):=inferInstanceAs (Decidable (_/\_))
def eD:Int->List aK->Prop
 | _,[]=>True
 | a,r :: l=>b9 r/\a+2<=r.bE/\eD r.bz l
instance Si:∀ (a:Int) (l:List aK),Decidable (eD a l)
 | _,[]=>inferInstanceAs (Decidable True)
 | a,r :: l=>by
  have:=Si r.bz l;exact inferInstanceAs (Decidable (b9 r/\a+2<=r.bE/\eD r.bz l))
def gi (l:List aK):Int:=if eD (-2) l then 0 else 3
def hF (l:List aK) (r:aK):Int:=if gi l≠0 then gi l else if b9 r then 0 else 6
theorem wh (r:aK):Fn Tryz.prog 287 [.agg (aB r)] (ab (decide (b9 r))):=by
 refine aH Tryz.func287 ?_;(try refine ay ?_;and_intros <;> intros)
 all_goals (refine bX (hr:=?_))
 all_goals first
  | rw[decide_eq_true (by unfold b9;omega)]
  | rw[decide_eq_false (by unfold b9;omega)]
theorem x6 (r:aK):Fn Tryz.prog 144 [.agg (aB r)] (ab (decide (b9 r))):=by
 refine aH Tryz.func144 ?_;(refine mc ?_;and_intros <;> intros)
 all_goals (refine bX (hr:=?_))
 all_goals first
  | rw[decide_eq_true (by unfold b9;omega)]
  | rw[decide_eq_false (by unfold b9;omega)]
def js (l:List aK) (k:Nat):Int:=if k=0 then -2 else(l.getD (k - 1) default).bz
theorem Lf {l:List aK} {k:Nat} {a:Int} (h:k<l.length):eD a (l.drop k) ↔ b9 (l.getD k default)/\a+2<=(l.getD k default).bE/\eD (js l (k+1)) (l.drop (k+1)):=by
 rw[drop_cons h];unfold js;rw[ah (by omega),Nat.add_sub_cancel];rfl
theorem wj (l:List aK) (hw:∀ y,y ∈ l->fB y) (ao:l.length * 16<=140737488355312):Fn Tryz.prog 237 [.ro (l.map aB)] (I (gi l)):=by
 refine aH Tryz.func237 ?_;(try refine ay ?_;and_intros <;> intros);refine cv (fun k:Nat=>⟨[(0,.ro (l.map aB)),(5,.ro (l.map aB)),(6,I l.length),(7,I k)],[],0,Tryz.f237.ntmps⟩)
  (fun k=>k<=l.length/\(eD (-2) l ↔ eD (js l k) (l.drop k)) /\ -2<=js l k/\js l k<=4611686018427387903) (fun k=>l.length - k) 0 ⟨cm _,by simp[js],by simp[js],by simp[js]⟩ dV ?_
 rintro k ⟨ag,hi,nN,k3⟩;by_cases au:k<l.length
 ·have hd:=Lf (a:=js l k) au;have p2:=hw _ (cc au);unfold fB aE at p2;have Sj:js l (k+1)=(l.getD k default).bz:=by unfold js;rw[ah (by omega),Nat.add_sub_cancel]
  by_cases qZ:k=0
  ·have aU:js l k = -2:=by unfold js;rw[al qZ]
   (repeat' first|(refine h4 (wh _) (ht:=?_) (hff:=?_) <;> intro _ <;> try (exfalso;omega))|(refine h5 (wh _) (ht:=?_) (hff:=?_) <;> intro _ <;> try (exfalso;omega))|(refine ay ?_;(and_intros <;> intros))|fail)
   all_goals first
    | (refine bX (hr:=?_);unfold gi;rw[ah (fun h=>?_)];have:=hd.1 (hi.1 h);unfold b9 at *;omega)
    | (exact⟨k+1,(by omega),Lg,ba⟩)
  ·have aU:js l k=(l.getD (k - 1) default).bz:=by unfold js;rw[ah qZ]
   rw[aU] at hd nN k3;(repeat' first|(refine h4 (wh _) (ht:=?_) (hff:=?_) <;> intro _ <;> try (exfalso;omega))|(refine h5 (wh _) (ht:=?_) (hff:=?_) <;> intro _ <;> try (exfalso;omega))|(refine ay ?_;(and_intros <;> intros))|fail)
   all_goals first
    | (refine bX (hr:=?_);unfold gi;rw[ah (fun h=>?_)];rw[aU] at hi;have:=hd.1 (hi.1 h);unfold b9 at *;omega)
    | (exact⟨k+1,(by omega),(by have av:b9 (l.getD k default):=cu;unfold b9 at av;rw[aU] at hi;refine ⟨au,⟨fun h=>(hd.1 (hi.1 h)).2.2,fun h=>hi.2 (hd.2 ⟨by assumption,?_,h⟩)⟩,?_,?_⟩ <;> omega),ba⟩)
 ·(try refine ay ?_;and_intros <;> intros)
  all_goals (refine bX (hr:=?_);unfold gi;rw[al (hi.2 (by rw[List.drop_eq_nil_of_le (by omega)];trivial))])
theorem BH (l m:List aK) (ao:l.length * 16<=140737488355328) (hm:m.length * 16<=140737488355328):Fn Tryz.prog 158 [.ro (l.map aB),.ro (m.map aB)] (ab (yes (l=m))):=by
 by_cases hlen:l.length=m.length
 ·refine aH Tryz.func158 ?_;(try refine ay ?_;and_intros <;> intros);refine cv (fun x:Nat×Bool=>⟨[(0,.ro (l.map aB)),(1,.ro (m.map aB)),(5,ab x.2),(6,I x.1)],[],0,Tryz.f158.ntmps⟩)
   (fun x=>x7 l m (l=m) x.1 x.2) (fun x=>l.length - x.1) (0,true) ⟨cm _,fun _=>⟨hlen,rfl⟩,fun h=>by cases h⟩ dV ?_
  rintro ⟨k,ok⟩ ⟨ag,aw,hn⟩;dsimp only at ag aw hn ⊢
  cases ok
  ·(try refine ay ?_;and_intros <;> intros)
   all_goals (refine bX (hr:=?_);exact oy (hn rfl))
  ·obtain ⟨_,ht⟩:=aw rfl;by_cases au:k<l.length
   ·skip;(try refine ay ?_;and_intros <;> intros)
    all_goals first
     | (exact⟨(k+1,true),b4,(by exact⟨au,fun _=>⟨hlen,x8 au (by omega) ht (by have h:=‹_/\_›;exact BI h.1 h.2.1)⟩,fun h=>by cases h⟩),ba⟩)
     | (exact⟨(k+1,false),b4,(by exact⟨au,fun h=>(by cases h),fun _=>BJ (k:=k) (by intro e;simp_all)⟩),ba⟩)
   ·(try refine ay ?_;and_intros <;> intros)
    all_goals (refine bX (hr:=?_);exact rH (x9 (by omega) (by omega) ht))
 ·refine aH Tryz.func158 ?_;(try refine ay ?_;and_intros <;> intros);refine cv (fun _:Unit=>⟨[(5,ab false)],[],0,Tryz.f158.ntmps⟩) (fun _=>True) (fun _=>0) () trivial dV ?_;intro _ _;(try refine ay ?_;and_intros <;> intros)
  all_goals (refine bX (hr:=?_);exact oy (fun e=>hlen (by rw[e])))
end Go.Proofs.YtendheafcbickaaGreat
