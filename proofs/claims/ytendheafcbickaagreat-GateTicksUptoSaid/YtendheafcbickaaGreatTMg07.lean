/-
  SEVERAL TEXTS IN ONE: each with its own comment.
-/
import Derived.Test.YtendheafcbickaaGreatTZip
import Derived.Test.YtendheafcbickaaGreatTGo
import Derived.Test.YtendheafcbickaaGreatTMg06
import Derived.Test.YtendheafcbickaaGreatProg
import Derived.Test.YtendheafcbickaaGreatTEnc
set_option linter.unusedVariables false
set_option linter.unusedSimpArgs false
set_option maxHeartbeats 16000000
namespace Go.Proofs.YtendheafcbickaaGreat
section
set_option maxRecDepth 100000
attribute [local irreducible] cq a8 bw GStep Fn cu bk
def b9 (r:aQ):Prop:=0<=r.bs/\r.bs<=r.br/\r.br<=4611686018427387903
instance (r:aQ):Decidable (b9 r):=inferInstanceAs (Decidable (_/\_))
def ed:Int->List aQ->Prop
 | _,[]=>True
 | a,r :: l=>b9 r/\a+2<=r.bs/\ed r.br l
instance PJ:∀ (a:Int) (l:List aQ),Decidable (ed a l)
 | _,[]=>inferInstanceAs (Decidable True)
 | a,r :: l=>by
  have:=PJ r.br l
  exact inferInstanceAs (Decidable (b9 r/\a+2<=r.bs/\ed r.br l))
def gH (l:List aQ):Int:=if ed (-2) l then 0 else 3
def ih (l:List aQ) (r:aQ):Int:=if gH l≠0 then gH l else if b9 r then 0 else 6
theorem uq (r:aQ):Fn Tryz.prog 287 [.agg (aD r)] (.lit (.bool (decide (b9 r)))):=by
 refine aU ae Tryz.func287 rfl ae ?_
 (repeat' first|(refine ab ?_;((repeat' first|exact True.intro|refine R.mk ?_ ?_);all_goals intros))|fail "")
 all_goals (refine bt (hr:=?_))
 all_goals first
  | rw[decide_eq_true (by unfold b9;omega)]
  | rw[decide_eq_false (by unfold b9;omega)]
theorem Cs (r:aQ):Fn Tryz.prog 144 [.agg (aD r)] (.lit (.bool (decide (b9 r)))):=by
 refine aU ae Tryz.func144 rfl ae ?_
 (repeat' first|(refine dM (cB _ _) (ht:=?_) (hff:=?_) <;> intro _ <;> try (exfalso;omega))|(refine dN (cB _ _) (ht:=?_) (hff:=?_) <;> intro _ <;> try (exfalso;omega))|(refine ab ?_;((repeat' first|exact True.intro|refine R.mk ?_ ?_);all_goals intros))|fail "")
 all_goals (refine bt (hr:=?_))
 all_goals first
  | rw[decide_eq_true (by unfold b9;omega)]
  | rw[decide_eq_false (by unfold b9;omega)]
def iy (l:List aQ) (k:Nat):Int:=if k=0 then -2 else(l.getD (k - 1) default).br
theorem G2 {l:List aQ} {k:Nat} {a:Int} (h:k<l.length):ed a (l.drop k) ↔ b9 (l.getD k default)/\a+2<=(l.getD k default).bs/\ed (iy l (k+1)) (l.drop (k+1)):=by
 rw[drop_cons h];unfold iy;rw[if_neg (by omega),Nat.add_sub_cancel];rfl
theorem vF (l:List aQ) (hw:∀ y,y ∈ l->fz y) (aq:l.length * 16<=140737488355312):Fn Tryz.prog 237 [.ro (l.map aD)] (.lit (.int .i64 (gH l))):=by
 refine aU ae Tryz.func237 rfl ae ?_
 (repeat' first|(refine ab ?_;((repeat' first|exact True.intro|refine R.mk ?_ ?_);all_goals intros))|fail "")
 refine b2 (fun k:Nat=>⟨[(0,.ro (l.map aD)),(5,.ro (l.map aD)),(6,.lit (.int .i64 l.length)),(7,.lit (.int .i64 k))],[],0,Tryz.f237.ntmps⟩)
  (fun k=>k<=l.length/\(ed (-2) l ↔ ed (iy l k) (l.drop k)) /\ -2<=iy l k/\iy l k<=4611686018427387903) (fun k=>l.length - k) 0 ⟨Nat.zero_le _,by simp[iy],by simp[iy],by simp[iy]⟩ du ?_
 rintro k ⟨ag,hi,sn,nk⟩
 by_cases aJ:k<l.length
 ·have hd:=G2 (a:=iy l k) aJ
  have pS:=hw _ (cY aJ)
  unfold fz aF at pS
  have NU:iy l (k+1)=(l.getD k default).br:=by unfold iy;rw[if_neg (by omega),Nat.add_sub_cancel]
  by_cases ng:k=0
  ·have bh:iy l k = -2:=by unfold iy;rw[if_pos ng]
   (repeat' first|(refine dM (uq _) (ht:=?_) (hff:=?_) <;> intro _ <;> try (exfalso;omega))|(refine dN (uq _) (ht:=?_) (hff:=?_) <;> intro _ <;> try (exfalso;omega))|(refine ab ?_;((repeat' first|exact True.intro|refine R.mk ?_ ?_);all_goals intros))|fail "")
   all_goals first
    | (refine bt (hr:=?_);unfold gH;rw[if_neg (fun h=>?_)];have:=hd.1 (hi.1 h);unfold b9 at *;omega)
    | (refine ⟨k+1,?_,?_,?_⟩;rotate_left 2;(exact ax);(exact bN);(exact G3))
  ·have bh:iy l k=(l.getD (k - 1) default).br:=by unfold iy;rw[if_neg ng]
   rw[bh] at hd sn nk
   (repeat' first|(refine dM (uq _) (ht:=?_) (hff:=?_) <;> intro _ <;> try (exfalso;omega))|(refine dN (uq _) (ht:=?_) (hff:=?_) <;> intro _ <;> try (exfalso;omega))|(refine ab ?_;((repeat' first|exact True.intro|refine R.mk ?_ ?_);all_goals intros))|fail "")
   all_goals first
    | (refine bt (hr:=?_);unfold gH;rw[if_neg (fun h=>?_)];rw[bh] at hi;have:=hd.1 (hi.1 h);unfold b9 at *;omega)
    | (refine ⟨k+1,?_,?_,?_⟩;rotate_left 2;(exact ax);(exact bN);(focus (have aj:b9 (l.getD k default):=ca;unfold b9 at aj;rw[bh] at hi;refine ⟨aJ,⟨fun h=>(hd.1 (hi.1 h)).2.2,fun h=>hi.2 (hd.2 ⟨by assumption,?_,h⟩)⟩,?_,?_⟩ <;> omega)))
 ·(repeat' first|(refine ab ?_;((repeat' first|exact True.intro|refine R.mk ?_ ?_);all_goals intros))|fail "")
  all_goals (refine bt (hr:=?_);unfold gH;rw[if_pos (hi.2 (by rw[List.drop_eq_nil_of_le (by omega)];trivial))])
theorem zt (l m:List aQ) (aq:l.length * 16<=140737488355328) (hm:m.length * 16<=140737488355328):Fn Tryz.prog 158 [.ro (l.map aD),.ro (m.map aD)] (.lit (.bool (yes (l=m)))):=by
 by_cases hlen:l.length=m.length
 ·refine aU ae Tryz.func158 rfl ae ?_
  (repeat' first|(refine ab ?_;((repeat' first|exact True.intro|refine R.mk ?_ ?_);all_goals intros))|fail "")
  refine b2 (fun x:Nat×Bool=>⟨[(0,.ro (l.map aD)),(1,.ro (m.map aD)),(5,.lit (.bool x.2)),(6,.lit (.int .i64 x.1))],[],0,Tryz.f158.ntmps⟩)
   (fun x=>vZ l m (l=m) x.1 x.2) (fun x=>l.length - x.1) (0,true) ⟨Nat.zero_le _,fun _=>⟨hlen,rfl⟩,fun h=>by cases h⟩ du ?_
  rintro ⟨k,ok⟩ ⟨ag,ap,hn⟩
  dsimp only at ag ap hn ⊢
  cases ok
  ·(repeat' first|(refine ab ?_;((repeat' first|exact True.intro|refine R.mk ?_ ?_);all_goals intros))|fail "")
   all_goals (refine bt (hr:=?_);exact nl (hn rfl))
  ·obtain ⟨_,ht⟩:=ap rfl
   by_cases aJ:k<l.length
   ·skip
    (repeat' first|(refine ab ?_;((repeat' first|exact True.intro|refine R.mk ?_ ?_);all_goals intros))|fail "")
    all_goals first
     | (refine ⟨(k+1,true),?_,?_,?_⟩;rotate_left 2;(exact ax);(exact bV);(focus (exact⟨aJ,fun _=>⟨hlen,zE aJ (by omega) ht (by have h:=‹_/\_›;exact Hq h.1 h.2.1)⟩,fun h=>by cases h⟩)))
     | (refine ⟨(k+1,false),?_,?_,?_⟩;rotate_left 2;(exact ax);(exact bV);(focus (exact⟨aJ,fun h=>(by cases h),fun _=>Di (k:=k) (by intro e;simp_all)⟩)))
   ·(repeat' first|(refine ab ?_;((repeat' first|exact True.intro|refine R.mk ?_ ?_);all_goals intros))|fail "")
    all_goals (refine bt (hr:=?_);exact pV (v7 (by omega) (by omega) ht))
 ·refine aU ae Tryz.func158 rfl ae ?_
  (repeat' first|(refine ab ?_;((repeat' first|exact True.intro|refine R.mk ?_ ?_);all_goals intros))|fail "")
  refine b2 (fun _:Unit=>⟨[(5,.lit (.bool false))],[],0,Tryz.f158.ntmps⟩) (fun _=>True) (fun _=>0) () trivial du ?_
  intro _ _
  (repeat' first|(refine ab ?_;((repeat' first|exact True.intro|refine R.mk ?_ ?_);all_goals intros))|fail "")
  all_goals (refine bt (hr:=?_);exact nl (fun e=>hlen (by rw[e])))
theorem uk (l m:List UInt8):Fn Tryz.prog 47 [.ro (l.map aC),.ro (m.map aC)] (.lit (.bool (yes (l=m)))):=by
 refine aU ae Tryz.func47 rfl ae ?_
 (repeat' first|(refine ab ?_;((repeat' first|exact True.intro|refine R.mk ?_ ?_);all_goals intros))|fail "")
 all_goals refine bt (hr:=?_)
 ·exact pV ca
 ·exact nl ca
theorem PK {l:List Int} {k:Nat} {n:Int} (h:k<l.length):n ∈ l.take (k+1) ↔ n ∈ l.take k\/n=l.getD k default:=by
 rw[hy h,List.mem_append,List.mem_singleton]
theorem zF (s:c8) (n:Int) (hw:eF s):Fn Tryz.prog 238 [.agg (gC s),.lit (.int .i64 n)] (.lit (.bool (decide (n ∈ s.b7)))):=by
 have aq:s.b7.length<=1000000000000000:=by have:=hw.2.2.2.2.2.2.1;omega
 refine aU ae Tryz.func238 rfl ae ?_
 (repeat' first|(refine ab ?_;((repeat' first|exact True.intro|refine R.mk ?_ ?_);all_goals intros))|fail "")
 refine b2 (fun k:Nat=>⟨[(1,.lit (.int .i64 n)),(8,.ro (s.b7.map encI)),(9,.lit (.int .i64 s.b7.length)),(10,.lit (.int .i64 k))],[],0,Tryz.f238.ntmps⟩)
  (fun k=>k<=s.b7.length /\ ¬ n ∈ s.b7.take k) (fun k=>s.b7.length - k) 0 ⟨Nat.zero_le _,by simp⟩ du ?_
 rintro k ⟨ag,hn⟩
 by_cases aJ:k<s.b7.length
 ·(repeat' first|(refine ab ?_;((repeat' first|exact True.intro|refine R.mk ?_ ?_);all_goals intros))|fail "")
  all_goals first
   | (refine ⟨k+1,?_,?_,?_⟩;rotate_left 2;(exact ax);(exact bN);(exact H3))
   | (refine bt (hr:=?_);rw[decide_eq_true (by have h:=cY aJ;rwa [show s.b7.getD k default=n by assumption] at h)])
 ·(repeat' first|(refine ab ?_;((repeat' first|exact True.intro|refine R.mk ?_ ?_);all_goals intros))|fail "")
  all_goals (refine bt (hr:=?_);rw[decide_eq_false (by rw[List.take_of_length_le (by omega)] at hn;exact hn)])
theorem PL (l:List Int) (n:Int) (aq:l.length * 8<=140737488351232):Fn Tryz.prog 254 [.ro (l.map encI),.lit (.int .i64 n)] (.lit (.bool (decide (n ∈ l)))):=by
 refine aU ae Tryz.func254 rfl ae ?_
 (repeat' first|(refine ab ?_;((repeat' first|exact True.intro|refine R.mk ?_ ?_);all_goals intros))|fail "")
 refine b2 (fun k:Nat=>⟨[(1,.lit (.int .i64 n)),(7,.ro (l.map encI)),(8,.lit (.int .i64 l.length)),(9,.lit (.int .i64 k))],[],0,Tryz.f254.ntmps⟩)
  (fun k=>k<=l.length /\ ¬ n ∈ l.take k) (fun k=>l.length - k) 0 ⟨Nat.zero_le _,by simp⟩ du ?_
 rintro k ⟨ag,hn⟩
 by_cases aJ:k<l.length
 ·(repeat' first|(refine ab ?_;((repeat' first|exact True.intro|refine R.mk ?_ ?_);all_goals intros))|fail "")
  all_goals first
   | (refine ⟨k+1,?_,?_,?_⟩;rotate_left 2;(exact ax);(exact bN);(exact H3))
   | (refine bt (hr:=?_);rw[decide_eq_true (by have h:=cY aJ;rwa [show l.getD k default=n by assumption] at h)])
 ·(repeat' first|(refine ab ?_;((repeat' first|exact True.intro|refine R.mk ?_ ?_);all_goals intros))|fail "")
  all_goals (refine bt (hr:=?_);rw[decide_eq_false (by rw[List.take_of_length_le (by omega)] at hn;exact hn)])
def lj (s:c8) (i:Nat):Prop:=0<=(s.az.getD i default).Number/\(s.az.getD i default).Number<s.Next/\0<=(s.az.getD i default).Time/\(s.az.getD i default).Time<=1099511627776/\0<=(s.az.getD i default).fm/\(s.az.getD i default).fm<=400 /\
 ¬ (s.az.getD i default).Number ∈ s.b7/\(i=0\/(s.az.getD (i - 1) default).Number<(s.az.getD i default).Number)
def nY (s:c8) (i:Nat):Prop:=0<=s.b7.getD i default/\s.b7.getD i default<s.Next/\(i=0\/s.b7.getD (i - 1) default<s.b7.getD i default)
def gN (s:c8):Prop:=0<=s.Next/\s.Next<=4611686018427387903 /\ -1<=s.dn/\s.dn<s.Next/\s.az.length<=24/\s.cg.length<=6/\gH s.cg=0/\s.b7.length<=6
def o4 (s:c8):Prop:=(gN s /\ ¬ s.dn ∈ s.b7)/\cV (lj s) s.az.length/\cV (nY s) s.b7.length
open Classical in
noncomputable def hZ (s:c8):Int:=if o4 s then 0 else 9
theorem lF (s:c8):(hZ s=0/\o4 s)\/(hZ s=9 /\ ¬ o4 s):=by
 unfold hZ
 by_cases h:o4 s
 ·exact .inl ⟨if_pos h,h⟩
 ·exact .inr ⟨if_neg h,h⟩
theorem H4 {s:c8} (h:o4 s):hZ s=0:=if_pos h
theorem Dj {s:c8} (h:¬ o4 s):hZ s=9:=if_neg h
def sI (s:c8) (k:Nat):Int:=if k=0 then -1 else(s.az.getD (k - 1) default).Number
def sJ (s:c8) (k:Nat):Int:=if k=0 then -1 else s.b7.getD (k - 1) default
theorem PM {s:c8} {k:Nat} (h:cV (lj s) k) : -1<=sI s k:=by
 unfold sI
 split
 ·omega
 ·have:=(h (k - 1) (by omega)).1;omega
theorem PN {s:c8} {k:Nat} (h:cV (nY s) k) : -1<=sJ s k:=by
 unfold sJ
 split
 ·omega
 ·have:=(h (k - 1) (by omega)).1;omega
theorem PO (s:c8) (k:Nat):sI s (k+1)=(s.az.getD k default).Number:=by unfold sI;rw[if_neg (by omega),Nat.add_sub_cancel]
theorem PP (s:c8) (k:Nat):sJ s (k+1)=s.b7.getD k default:=by unfold sJ;rw[if_neg (by omega),Nat.add_sub_cancel]
theorem PQ {s:c8} {k:Nat} (h:cV (lj s) k):lj s k ↔ (sI s k<(s.az.getD k default).Number/\(s.az.getD k default).Number<s.Next/\0<=(s.az.getD k default).Time/\(s.az.getD k default).Time<=1099511627776/\0<=(s.az.getD k default).fm/\(s.az.getD k default).fm<=400 /\ ¬ (s.az.getD k default).Number ∈ s.b7):=by
 have aw:=PM h
 unfold lj
 unfold sI at *
 by_cases ag:k=0
 ·rw[if_pos ag]
  exact⟨fun ⟨a,b,c,d,e,f,g,_⟩=>⟨by omega,b,c,d,e,f,g⟩,fun ⟨a,b,c,d,e,f,g⟩=>⟨by omega,b,c,d,e,f,g,.inl ag⟩⟩
 ·rw[if_neg ag] at *
  exact⟨fun ⟨a,b,c,d,e,f,g,q⟩=>⟨by omega,b,c,d,e,f,g⟩,fun ⟨a,b,c,d,e,f,g⟩=>⟨by omega,b,c,d,e,f,g,.inr a⟩⟩
theorem PR {s:c8} {k:Nat} (h:cV (nY s) k):nY s k ↔ (sJ s k<s.b7.getD k default/\s.b7.getD k default<s.Next):=by
 have aw:=PN h
 unfold nY
 unfold sJ at *
 by_cases ag:k=0
 ·rw[if_pos ag]
  exact⟨fun ⟨a,b,_⟩=>⟨by omega,b⟩,fun ⟨a,b⟩=>⟨by omega,b,.inl ag⟩⟩
 ·rw[if_neg ag] at *
  exact⟨fun ⟨a,b,q⟩=>⟨by omega,b⟩,fun ⟨a,b⟩=>⟨by omega,b,.inr a⟩⟩
theorem vB (s:c8) (hw:eF s):Fn Tryz.prog 117 [.agg (gC s)] (.lit (.int .i64 (hZ s))):=by
 have iA:s.az.length<=1000000000000000:=by have:=hw.2.1;omega
 have iw:s.b7.length<=1000000000000000:=by have:=hw.2.2.2.2.2.2.1;omega
 have lC:s.cg.length<=1000000000000000:=by have:=hw.2.2.2.2.1;omega
 have I:=vF s.cg hw.2.2.2.2.2.1 (by have:=hw.2.2.2.2.1;omega)
 refine aU ae Tryz.func117 rfl ae ?_
 refine iv ?_
 refine lb ?_
 (repeat' first|(refine ni ?_;((repeat' first|exact True.intro|refine R.mk ?_ ?_);all_goals intros))|fail "")
 refine lc ?_
 refine fG (fun ok:Bool=>⟨[(1,.ptr 0 0 0 0),(2,.lit (.int .i64 0)),(3,.lit (.bool ok))],[(0,some (.box 43 (gC s)))],1,Tryz.f117.ntmps⟩) (fun ok=>ok=true ↔ gN s) ?_ ?_
 ·(repeat' first|(refine ar (I) (h:=?_))|(refine au (I) (h:=?_))|(refine ab ?_;((repeat' first|exact True.intro|refine R.mk ?_ ?_);all_goals intros))|fail "")
  all_goals first
   | (refine ⟨true,?_,?_⟩;rotate_left 1;(exact ax);(focus (exact⟨fun _=>(by unfold gN;omega),fun _=>rfl⟩)))
   | (refine ⟨false,?_,?_⟩;rotate_left 1;(exact ax);(focus (exact⟨(fun h=>by cases h),fun h=>(by unfold gN at h;omega)⟩)))
 rintro ok bu
 (repeat' first|(refine ab ?_;((repeat' first|exact True.intro|refine R.mk ?_ ?_);all_goals intros))|fail "")
 refine b2 (fun x:Nat×Bool=>⟨[(1,.ptr 0 0 0 0),(2,.lit (.int .i64 0)),(3,.lit (.bool x.2)),(4,.lit (.int .i64 (sI s x.1))),(54,.ro (s.az.map bY)),(55,.lit (.int .i64 s.az.length)),(56,.lit (.int .i64 x.1))],[(0,some (.box 43 (gC s)))],1,Tryz.f117.ntmps⟩)
   (fun x=>x.1<=s.az.length/\(x.2=true ↔ gN s/\cV (lj s) x.1)) (fun x=>s.az.length - x.1) (0,ok) ⟨Nat.zero_le _,by rw[bu];exact⟨fun h=>⟨h,jx⟩,fun h=>h.1⟩⟩ du ?_
 rintro ⟨k,ok⟩ ⟨ag,hi⟩
 dsimp only at ag hi ⊢
 by_cases aJ:k<s.az.length
 ·have PS:=PO s k
  cases ok
  ·have hi:¬ (gN s/\cV (lj s) k):=fun h=>by have:=hi.2 h;cases this
   (repeat' first|(refine ab ?_;((repeat' first|exact True.intro|refine R.mk ?_ ?_);all_goals intros))|fail "")
   all_goals (refine ⟨(k+1,false),?_,?_,?_⟩;rotate_left 2;(exact ax);(exact bV);(exact zG))
  ·obtain ⟨hh,bj⟩:=hi.1 rfl
   have hq:=PQ bj
   (repeat' first|(refine dM (zF s _ hw) (ht:=?_) (hff:=?_) <;> intro _ <;> try (exfalso;omega))|(refine dN (zF s _ hw) (ht:=?_) (hff:=?_) <;> intro _ <;> try (exfalso;omega))|(refine ab ?_;((repeat' first|exact True.intro|refine R.mk ?_ ?_);all_goals intros))|fail "")
   all_goals first
    | (refine ⟨(k+1,true),?_,?_,?_⟩;rotate_left 2;(exact ax);(exact bV);(focus (exact⟨aJ,fun _=>⟨hh,gn.2 ⟨bj,hq.2 ⟨by omega,by omega,by omega,by omega,by omega,by omega,by assumption⟩⟩⟩,fun _=>rfl⟩)))
    | (refine ⟨(k+1,false),?_,?_,?_⟩;rotate_left 2;(exact ax);(exact bV);(focus (refine ⟨aJ,(fun h=>by cases h),fun h=>?_⟩;obtain ⟨aT,a1,bz,cW,gA,Cz,vG⟩:=hq.1 (gn.1 h.2).2;first|(exfalso;omega)|exact absurd ca vG)))
 ·have ct:k=s.az.length:=by omega
  subst ct
  (repeat' first|(refine ab ?_;((repeat' first|exact True.intro|refine R.mk ?_ ?_);all_goals intros))|fail "")
  refine b2 (fun x:Nat×Bool=>⟨[(1,.ptr 0 0 0 0),(2,.lit (.int .i64 0)),(3,.lit (.bool x.2)),(4,.lit (.int .i64 (sJ s x.1))),(105,.ro (s.b7.map encI)),(106,.lit (.int .i64 s.b7.length)),(107,.lit (.int .i64 x.1))],[(0,some (.box 43 (gC s)))],1,Tryz.f117.ntmps⟩)
   (fun x=>x.1<=s.b7.length/\(x.2=true ↔ (gN s/\cV (lj s) s.az.length)/\cV (nY s) x.1)) (fun x=>s.b7.length - x.1) (0,ok) ⟨Nat.zero_le _,by rw[hi];exact⟨fun h=>⟨h,jx⟩,fun h=>h.1⟩⟩ du ?_
  rintro ⟨k,ok⟩ ⟨ag,hi⟩
  dsimp only at ag hi ⊢
  by_cases aJ:k<s.b7.length
  ·have PS:=PP s k
   cases ok
   ·have hi:¬ ((gN s/\cV (lj s) s.az.length)/\cV (nY s) k):=fun h=>by have:=hi.2 h;cases this
    (repeat' first|(refine ab ?_;((repeat' first|exact True.intro|refine R.mk ?_ ?_);all_goals intros))|fail "")
    all_goals (refine ⟨(k+1,false),?_,?_,?_⟩;rotate_left 2;(exact ax);(exact bV);(exact zG))
   ·obtain ⟨hh,bj⟩:=hi.1 rfl
    have hq:=PR bj
    (repeat' first|(refine ab ?_;((repeat' first|exact True.intro|refine R.mk ?_ ?_);all_goals intros))|fail "")
    all_goals first
     | (refine ⟨(k+1,true),?_,?_,?_⟩;rotate_left 2;(exact ax);(exact bV);(focus (exact⟨aJ,fun _=>⟨hh,gn.2 ⟨bj,hq.2 ⟨by omega,by omega⟩⟩⟩,fun _=>rfl⟩)))
     | (refine ⟨(k+1,false),?_,?_,?_⟩;rotate_left 2;(exact ax);(exact bV);(exact Dk))
  ·have ct:k=s.b7.length:=by omega
   subst ct
   cases ok
   ·have hi:¬ o4 s:=fun h=>by have:=hi.2 ⟨⟨h.1.1,h.2.1⟩,h.2.2⟩;cases this
    (repeat' first|(refine ab ?_;((repeat' first|exact True.intro|refine R.mk ?_ ?_);all_goals intros))|fail "")
    all_goals exact bt (hr:=by rw[Dj hi])
   ·have hh:=hi.1 rfl
    (repeat' first|(refine dM (zF s _ hw) (ht:=?_) (hff:=?_) <;> intro _ <;> try (exfalso;omega))|(refine dN (zF s _ hw) (ht:=?_) (hff:=?_) <;> intro _ <;> try (exfalso;omega))|(refine ab ?_;((repeat' first|exact True.intro|refine R.mk ?_ ?_);all_goals intros))|fail "")
    all_goals first
     | exact bt (hr:=by rw[H4 ⟨⟨hh.1.1,by assumption⟩,hh.1.2,hh.2⟩])
     | exact bt (hr:=by rw[Dj (fun h=>absurd ca h.1.2)])
end
section
set_option maxRecDepth 100000
attribute [local irreducible] cq a8 bw GStep Fn cu
def jn:Bool->Int->List dH->Option Int
 | _,a,[]=>some a
 | f,a,p :: l=>if 0<p.Data.length/\a<=p.bI/\p.bI+p.Data.length<=4611686018427387903/\(f=true\/a<p.bI) then jn false (p.bI+p.Data.length) l else none
def mb (g:fE):Prop:=0<=g.fN /\ -1<=g.ig/\g.fN<=g.cK/\g.cK<=4611686018427387903/\g.cI.length<=4
instance (g:fE):Decidable (mb g):=inferInstanceAs (Decidable (_/\_))
def qb (g:fE):Option Int->Bool
 | some a=>decide (a<=g.cK) && (decide (g.ig<0) || decide (a<=g.ig))
 | none=>false
def jP (g:fE):Int:=if mb g/\qb g (jn true g.fN g.cI)=true then 0 else 9
theorem H5 {g:fE} (h:¬ mb g):jP g=9:=if_neg (fun hh=>h hh.1)
theorem zH {g:fE} (h:qb g (jn true g.fN g.cI)=false):jP g=9:=if_neg (fun hh=>by rw[h] at hh;exact Bool.false_ne_true hh.2)
theorem H6 {g:fE} (h:mb g) (J:qb g (jn true g.fN g.cI)=true):jP g=0:=if_pos ⟨h,J⟩
def PT (g:fE) (x:Nat×Bool×Int):Prop:=
 x.1<=g.cI.length/\(x.2.1=false->jP g=9)/\(x.2.1=true->mb g/\jn (decide (x.1=0)) x.2.2 (g.cI.drop x.1)=jn true g.fN g.cI)
theorem NS (g:fE) (hw:iU g):Fn Tryz.prog 120 [.agg (l9 g)] (.lit (.int .i64 (jP g))):=by
  have hlen:g.cI.length<=1000000000000000:=by have:=hw.2.1;omega
  have mc:aF g.fN:=hw.1
  unfold aF at mc
  refine aU ae Tryz.func120 rfl ae ?_
  refine iv ?_
  refine lb ?_
  (repeat' first|(refine ni ?_;((repeat' first|exact True.intro|refine R.mk ?_ ?_);all_goals intros))|fail "")
  refine lc ?_
  refine fG (fun ok:Bool=>⟨[(1,.ptr 0 0 0 0),(2,.lit (.int .i64 0)),(3,.lit (.bool ok))],[(0,some (.box 130 (l9 g)))],1,Tryz.f120.ntmps⟩) (fun ok=>(ok=true->mb g)/\(ok=false->jP g=9)) ?_ ?_
  · (repeat' first|(refine ab ?_;((repeat' first|exact True.intro|refine R.mk ?_ ?_);all_goals intros))|fail "")
    all_goals first
      | exact⟨true,⟨fun _=>(by unfold mb;omega),fun h=>absurd h (by decide)⟩,du⟩
      | exact⟨false,⟨fun h=>absurd h (by decide),fun _=>H5 (by unfold mb;omega)⟩,du⟩
  rintro ok ⟨zI,Dl⟩
  (repeat' first|(refine ab ?_;((repeat' first|exact True.intro|refine R.mk ?_ ?_);all_goals intros))|fail "")
  refine b2 (fun x:Nat×Bool×Int=>⟨[(1,.ptr 0 0 0 0),(2,.lit (.int .i64 0)),(3,.lit (.bool x.2.1)),(4,.lit (.int .i64 x.2.2)),(36,.ro (g.cI.map kx)),(37,.lit (.int .i64 g.cI.length)),(38,.lit (.int .i64 x.1))],[(0,some (.box 130 (l9 g)))],1,Tryz.f120.ntmps⟩)
      (PT g) (fun x=>g.cI.length - x.1) (0,ok,g.fN) ⟨Nat.zero_le _,Dl,fun h=>⟨zI h,rfl⟩⟩ du ?_
  rintro ⟨k,ok,a⟩ ⟨ag,hf,ht⟩
  dsimp only at ag hf ht ⊢
  by_cases aJ:k<g.cI.length
  · have ay:jn (decide (k=0)) a (g.cI.drop k)=if 0<(g.cI.getD k default).Data.length/\a<=(g.cI.getD k default).bI/\(g.cI.getD k default).bI+(g.cI.getD k default).Data.length<=4611686018427387903/\(k=0\/a<(g.cI.getD k default).bI) then jn false ((g.cI.getD k default).bI+(g.cI.getD k default).Data.length) (g.cI.drop (k+1)) else none:=by
      rw[drop_cons aJ];simp only[jn,decide_eq_true_eq]
    obtain ⟨Dm,p4⟩:=hw.2.2.1 _ (cY aJ)
    unfold aF at Dm
    cases ok
    · have hf:=hf rfl
      (repeat' first|(refine ab ?_;((repeat' first|exact True.intro|refine R.mk ?_ ?_);all_goals intros))|fail "")
      all_goals exact bt (hr:=by rw[hf])
    · obtain ⟨hh,ht⟩:=ht rfl
      rw[ay] at ht
      have aj:=hh
      unfold mb at aj
      (repeat' first|(refine ab ?_;((repeat' first|exact True.intro|refine R.mk ?_ ?_);all_goals intros))|fail "")
      all_goals first
        | (refine bt (hr:=?_);rw[zH (by rw[<- ht,if_neg (by omega)];rfl)])
        | (refine ⟨(k + 1, true, (g.cI.getD k default).bI + (g.cI.getD k default).Data.length), ?_, ?_, ?_⟩
           · dsimp only;omega
           · refine ⟨kU,(fun h=>by cases h),fun _=>⟨hh,?_⟩⟩
             rw[if_pos (by omega)] at ht;exact ht
           · exact du)
  · have ct:k=g.cI.length:=by omega
    cases ok
    · have hf:=hf rfl
      (repeat' first|(refine ab ?_;((repeat' first|exact True.intro|refine R.mk ?_ ?_);all_goals intros))|fail "")
      all_goals exact bt (hr:=by rw[hf])
    · obtain ⟨hh,ht⟩:=ht rfl
      have aj:=hh
      unfold mb at aj
      rw[ct,List.drop_length] at ht
      (repeat' first|(refine ab ?_;((repeat' first|exact True.intro|refine R.mk ?_ ?_);all_goals intros))|fail "")
      all_goals first
        | (refine bt (hr:=?_);rw[zH zJ])
        | (refine bt (hr:=?_);rw[H6 hh zJ])
        | fail "left"
end
end Go.Proofs.YtendheafcbickaaGreat
