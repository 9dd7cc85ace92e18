/-
  SEVERAL TEXTS IN ONE: each with its own comment.
-/
import Derived.Test.YtendheafcbickaaGreatTEnc
import Derived.Test.YtendheafcbickaaGreatTZip
import Derived.Test.YtendheafcbickaaGreatTGo
import Derived.Test.YtendheafcbickaaGreatProg
set_option linter.unusedVariables false
set_option linter.unusedSimpArgs false
set_option maxHeartbeats 16000000
namespace Go.Proofs.YtendheafcbickaaGreat
section
theorem drop_cons {α:Type} [Inhabited α] {l:List α} {k:Nat} (h:k<l.length):l.drop k=l.getD k default :: l.drop (k+1):=by
 rw[List.drop_eq_getElem_cons h,List.getD_eq_getElem?_getD,List.getElem?_eq_getElem h];rfl
theorem cY {α:Type} [Inhabited α] {l:List α} {k:Nat} (h:k<l.length):l.getD k default ∈ l:=by
 rw[List.getD_eq_getElem?_getD,List.getElem?_eq_getElem h];exact List.getElem_mem h
theorem hy {α:Type} [Inhabited α] {l:List α} {k:Nat} (h:k<l.length):l.take (k+1)=l.take k++[l.getD k default]:=by
 rw[List.take_succ_eq_append_getElem h,List.getD_eq_getElem?_getD,List.getElem?_eq_getElem h];rfl
theorem zE {α:Type} [Inhabited α] {l m:List α} {k:Nat} (h:k<l.length) (J:k<m.length) (ht:l.take k=m.take k) (he:l.getD k default=m.getD k default):l.take (k+1)=m.take (k+1):=by
 rw[hy h,hy J,ht,he]
theorem Di {α:Type} [Inhabited α] {l m:List α} {k:Nat} (h:l.getD k default≠m.getD k default):l≠m:=fun e=>h (by rw[e])
theorem v7 {α:Type} {l m:List α} {k:Nat} (h:k=l.length) (J:k=m.length) (ht:l.take k=m.take k):l=m:=by
 rw[List.take_of_length_le (by omega),List.take_of_length_le (by omega)] at ht;exact ht
def vZ {α:Type} (l m:List α) (same:Prop) (k:Nat) (ok:Bool):Prop:=k<=l.length/\(ok=true->l.length=m.length/\l.take k=m.take k)/\(ok=false -> ¬ same)
theorem Jl {α:Type} [Inhabited α] {l:List α} {k:Nat} {p:α->Prop} (h:k<l.length) (ht:∀ x ∈ l.take k,p x) (ag:p (l.getD k default)):∀ x ∈ l.take (k+1),p x:=by
 intro x U
 rw[hy h,List.mem_append,List.mem_singleton] at U
 rcases U with U|rfl
 ·exact ht x U
 ·exact ag
def cV (Q:Nat->Prop) (k:Nat):Prop:=∀ i,i<k->Q i
theorem jx {Q:Nat->Prop}:cV Q 0:=fun i h=>by omega
theorem gn {Q:Nat->Prop} {k:Nat}:cV Q (k+1) ↔ cV Q k/\Q k:=
 ⟨fun h=>⟨fun i hi=>h i (by omega),h k (by omega)⟩,fun h i hi=>by
  by_cases e:i=k
  ·subst e;exact h.2
  ·exact h.1 i (by omega)⟩
end
section
set_option maxRecDepth 100000
attribute [local irreducible] cq a8 bw GStep Fn cu bk
theorem cB (a b:Int):Fn Tryz.prog 55 [.lit (.int .i64 a),.lit (.int .i64 b)] (.lit (.bool (decide (0<=a/\a<=b)))):=by
 refine aU ae Tryz.func55 rfl ae ?_
 (repeat' first|(refine ab ?_;((repeat' first|exact True.intro|refine R.mk ?_ ?_);all_goals intros))|fail "")
 all_goals refine bt (hr:=?_)
 all_goals first
  | rw[decide_eq_true (by omega)]
  | rw[decide_eq_false (by omega)]
def iF (t:fR):Prop:=0<=t.bM/\t.bM<=1099511627776/\0<=t.az/\t.az<=1099511627776/\(t.bO=true\/t.az<=3 * t.bM)
instance (t:fR):Decidable (iF t):=inferInstanceAs (Decidable (_/\_))
def ho (t:fR):Int:=if iF t then 0 else 9
def ll (t:fR) (n:Int):Int:=if iF t then(if 0<=n/\n<=400 then 0 else 6) else 9
def uI:fR:=⟨false,0,0⟩
def Xd (t:fR) (n:Int):fR×Int:=if ll t n≠0 then(uI,ll t n) else if 1099511627776<t.bM+n then(uI,8) else(⟨t.bO,t.bM+n,t.az⟩,0)
def kr (t:fR) (n:Int):fR×Int:=if ll t n≠0 then(uI,ll t n) else if 1099511627776<t.az+n then(uI,8) else if t.bO=false/\3 * t.bM<t.az+n then(uI,15) else(⟨t.bO,t.bM,t.az+n⟩,0)
def Xe (t:fR):fR×Int:=if iF t then(⟨true,t.bM,t.az⟩,0) else(uI,9)
theorem wP (t:fR) (hw:gL t):Fn Tryz.prog 98 [.agg (nt t)] (.lit (.int .i64 (ho t))):=by
 unfold gL aF at hw
 unfold nt
 cases hb:t.bO
 all_goals
  refine aU ae Tryz.func98 rfl ae ?_
  (repeat' first|(refine ab ?_;((repeat' first|exact True.intro|refine R.mk ?_ ?_);all_goals intros))|fail "")
  all_goals (refine bt (hr:=?_);unfold ho)
  all_goals first
   | rw[if_pos Ad]
   | rw[if_neg Ad]
theorem wQ (t:fR) (hw:gL t):Fn Tryz.prog 104 [.agg (nt t)] (.lit (.int .i64 (ho t))):=by
 unfold gL aF at hw
 unfold nt
 cases hb:t.bO
 all_goals
  refine aU ae Tryz.func104 rfl ae ?_
  (repeat' first|(refine dM (cB _ _) (ht:=?_) (hff:=?_) <;> intro _ <;> try (exfalso;omega))|(refine dN (cB _ _) (ht:=?_) (hff:=?_) <;> intro _ <;> try (exfalso;omega))|(refine ab ?_;((repeat' first|exact True.intro|refine R.mk ?_ ?_);all_goals intros))|fail "")
  all_goals (refine bt (hr:=?_);unfold ho)
  all_goals first
   | rw[if_pos Ad]
   | rw[if_neg Ad]
theorem Q2 (t:fR) (n:Int) (hw:gL t):Fn Tryz.prog 178 [.agg (nt t),.lit (.int .i64 n)] (.lit (.int .i64 (ll t n))):=by
 have I:=wP t hw
 unfold ho at I
 unfold ll
 by_cases aa:iF t
 ·rw[if_pos aa] at I ⊢
  refine aU ae Tryz.func178 rfl ae ?_
  (repeat' first|(refine ar (I) (h:=?_))|(refine au (I) (h:=?_))|(refine ab ?_;((repeat' first|exact True.intro|refine R.mk ?_ ?_);all_goals intros))|fail "")
  all_goals (refine bt (hr:=?_))
  all_goals first
   | rw[if_pos (by omega)]
   | rw[if_neg (by omega)]
 ·rw[if_neg aa] at I ⊢
  refine aU ae Tryz.func178 rfl ae ?_
  (repeat' first|(refine ar (I) (h:=?_))|(refine au (I) (h:=?_))|(refine ab ?_;((repeat' first|exact True.intro|refine R.mk ?_ ?_);all_goals intros))|fail "")
  all_goals exact bt (hr:=rfl)
theorem Q3 (t:fR) (n:Int):(ll t n=0/\iF t/\0<=n/\n<=400)\/ll t n=6\/ll t n=9:=by
 unfold ll
 split
 ·split
  ·exact .inl ⟨rfl,by assumption,by omega⟩
  ·exact .inr (.inl rfl)
 ·exact .inr (.inr rfl)
theorem NK (t:fR) (n:Int) (hw:gL t):Fn Tryz.prog 217 [.agg (nt t),.lit (.int .i64 n)] (.b0 [.agg (nt (kr t n).1),.lit (.int .i64 (kr t n).2)]):=by
 have I:=Q2 t n hw
 unfold kr
 rcases Q3 t n with⟨af,aa,hn⟩|af|af
 ·rw[af] at I ⊢
  unfold iF at aa
  rw[if_neg (by omega)]
  unfold nt at I ⊢
  cases hb:t.bO
  all_goals
   rw[hb] at I
   refine aU ae Tryz.func217 rfl ae ?_
   (repeat' first|(refine ar (I) (h:=?_))|(refine au (I) (h:=?_))|(refine ab ?_;((repeat' first|exact True.intro|refine R.mk ?_ ?_);all_goals intros))|fail "")
   all_goals (refine bt (hr:=?_))
   all_goals first
    | (rw[if_pos (by omega)] <;> rfl)
    | (rw[if_neg (by omega),if_pos Ag] <;> rfl)
    | (rw[if_neg (by omega),if_neg Ag] <;> rfl)
    | (rw[if_neg (by omega),if_neg (by first|(simp;done)|(simp;omega))] <;> rfl)
 all_goals
  rw[af] at I ⊢
  rw[if_pos (by omega)]
  refine aU ae Tryz.func217 rfl ae ?_
  (repeat' first|(refine ar (I) (h:=?_))|(refine au (I) (h:=?_))|(refine ab ?_;((repeat' first|exact True.intro|refine R.mk ?_ ?_);all_goals intros))|fail "")
  all_goals exact bt (hr:=rfl)
theorem Q4 {t:fR} {n:Int} (aa:iF t) (hn:0<=n/\n<=400):ll t n=0:=by unfold ll;rw[if_pos aa,if_pos hn]
theorem Q5 {t:fR} {n:Int} (aa:iF t) (hn:¬ (0<=n/\n<=400)):ll t n=6:=by unfold ll;rw[if_pos aa,if_neg hn]
theorem Q6 {t:fR} {n:Int} (aa:¬ iF t):ll t n=9:=by unfold ll;rw[if_neg aa]
theorem NM (t:fR) (n:Int) (hw:gL t):Fn Tryz.prog 228 [.agg (nt t),.lit (.int .i64 n)] (.b0 [.agg (nt (kr t n).1),.lit (.int .i64 (kr t n).2)]):=by
 have I:=wQ t hw
 unfold ho at I
 unfold kr
 by_cases aa:iF t
 ·have eJ:=aa
  unfold iF at eJ
  rw[if_pos aa] at I
  by_cases hn:0<=n/\n<=400
  ·rw[Q4 aa hn,if_neg (by omega)]
   unfold nt at I ⊢
   cases hb:t.bO
   all_goals
    rw[hb] at I
    refine aU ae Tryz.func228 rfl ae ?_
    (repeat' first|(refine ar (I) (h:=?_))|(refine au (I) (h:=?_))|(refine dM (cB _ _) (ht:=?_) (hff:=?_) <;> intro _ <;> try (exfalso;omega))|(refine dN (cB _ _) (ht:=?_) (hff:=?_) <;> intro _ <;> try (exfalso;omega))|(refine ab ?_;((repeat' first|exact True.intro|refine R.mk ?_ ?_);all_goals intros))|fail "")
    all_goals (refine bt (hr:=?_))
    all_goals first
     | (rw[if_pos (by omega)] <;> rfl)
     | (rw[if_neg (by omega),if_pos Ag] <;> rfl)
     | (rw[if_neg (by omega),if_neg Ag] <;> rfl)
  ·rw[Q5 aa hn,if_pos (by omega)]
   refine aU ae Tryz.func228 rfl ae ?_
   (repeat' first|(refine ar (I) (h:=?_))|(refine au (I) (h:=?_))|(refine dM (cB _ _) (ht:=?_) (hff:=?_) <;> intro _ <;> try (exfalso;omega))|(refine dN (cB _ _) (ht:=?_) (hff:=?_) <;> intro _ <;> try (exfalso;omega))|(refine ab ?_;((repeat' first|exact True.intro|refine R.mk ?_ ?_);all_goals intros))|fail "")
   all_goals exact bt (hr:=rfl)
 ·rw[if_neg aa] at I
  rw[Q6 aa,if_pos (by omega)]
  refine aU ae Tryz.func228 rfl ae ?_
  (repeat' first|(refine ar (I) (h:=?_))|(refine au (I) (h:=?_))|(refine dM (cB _ _) (ht:=?_) (hff:=?_) <;> intro _ <;> try (exfalso;omega))|(refine dN (cB _ _) (ht:=?_) (hff:=?_) <;> intro _ <;> try (exfalso;omega))|(refine ab ?_;((repeat' first|exact True.intro|refine R.mk ?_ ?_);all_goals intros))|fail "")
  all_goals exact bt (hr:=rfl)
end
section
set_option maxRecDepth 100000
attribute [local irreducible] cq a8 bw GStep Fn cu bk cU
def h4 (f:iB):Prop:=0<=f.cm/\f.cm<=f.Max/\f.Max<=4611686018427387903
instance (f:iB):Decidable (h4 f):=inferInstanceAs (Decidable (_/\_/\_))
def o0 (f:iB):Int:=if h4 f then 0 else 9
theorem C5 {f:iB} (h:h4 f):o0 f=0:=if_pos h
theorem Jm {f:iB} (h:¬ h4 f):o0 f=9:=if_neg h
theorem Cm (f:iB):Fn Tryz.prog 119 [.agg (ue f)] (.lit (.int .i64 (o0 f))):=by
 refine aU ae Tryz.func119 rfl ae ?_
 (repeat' first|(refine ab ?_;((repeat' first|exact True.intro|refine R.mk ?_ ?_);all_goals intros))|fail "")
 all_goals refine bt (hr:=?_)
 all_goals first
  | rw[C5 (by unfold h4;omega)]
  | rw[Jm (by unfold h4;omega)]
theorem Jn (f:iB):Fn Tryz.prog 139 [.agg (ue f)] (.lit (.int .i64 (o0 f))):=by
 refine aU ae Tryz.func139 rfl ae ?_
 (repeat' first|(refine dM (cB _ _) (ht:=?_) (hff:=?_) <;> intro _ <;> try (exfalso;omega))|(refine dN (cB _ _) (ht:=?_) (hff:=?_) <;> intro _ <;> try (exfalso;omega))|(refine ab ?_;((repeat' first|exact True.intro|refine R.mk ?_ ?_);all_goals intros))|fail "")
 all_goals refine bt (hr:=?_)
 all_goals first
  | rw[C5 (by unfold h4;omega)]
  | rw[Jm (by unfold h4;omega)]
end
section
set_option maxRecDepth 100000
attribute [local irreducible] cq a8 bw GStep Fn cu bk
def lE (p:fM):Prop:=200<=p.cK/\p.cK<=1099511627776/\0<=p.eE/\p.eE<=1099511627776/\0<=p.dW/\p.dW<=1099511627776 /\ -1<=p.Since/\p.Since<=1099511627776
instance (p:fM):Decidable (lE p):=inferInstanceAs (Decidable (_/\_))
def pP (p:fM):Int:=if lE p then 0 else 9
def lD (x:Int):Prop:=0<=x/\x<=1099511627776
instance (x:Int):Decidable (lD x):=inferInstanceAs (Decidable (_/\_))
def kk (p:fM) (l:List Int):Int:=if lE p then(if ∀ x ∈ l,lD x then 0 else 6) else 9
theorem Cl (p:fM):Fn Tryz.prog 118 [.agg (nr p)] (.lit (.int .i64 (pP p))):=by
 refine aU ae Tryz.func118 rfl ae ?_
 (repeat' first|(refine ab ?_;((repeat' first|exact True.intro|refine R.mk ?_ ?_);all_goals intros))|fail "")
 all_goals (refine bt (hr:=?_);unfold pP)
 all_goals first
  | rw[if_pos (by unfold lE;omega)]
  | rw[if_neg (by unfold lE;omega)]
theorem Jo (p:fM) (hw:hE p):Fn Tryz.prog 138 [.agg (nr p)] (.lit (.int .i64 (pP p))):=by
 unfold hE aF at hw
 have ap:p.Since≠9223372036854775807\/(p.Since=9223372036854775807/\IntKind.i64.wrap (p.Since+1) = -9223372036854775808):=by
  by_cases h:p.Since=9223372036854775807
  ·right;rw[h];exact⟨rfl,rfl⟩
  ·exact .inl h
 rcases ap with ap|ap
 all_goals
  refine aU ae Tryz.func138 rfl ae ?_
  (repeat' first|(refine dM (cB _ _) (ht:=?_) (hff:=?_) <;> intro _ <;> try (exfalso;omega))|(refine dN (cB _ _) (ht:=?_) (hff:=?_) <;> intro _ <;> try (exfalso;omega))|(refine ab ?_;((repeat' first|exact True.intro|refine R.mk ?_ ?_);all_goals intros))|fail "")
  all_goals (refine bt (hr:=?_);unfold pP)
  all_goals first
   | rw[if_pos (by unfold lE;omega)]
   | rw[if_neg (by unfold lE;omega)]
theorem HO (p:fM) (l:List Int) (aq:l.length<=100):Fn Tryz.prog 277 [.agg (nr p),.ro (l.map encI)] (.lit (.int .i64 (kk p l))):=by
 unfold kk
 by_cases aa:lE p
 ·have I:=Cl p
  rw[show pP p=0 from if_pos aa] at I
  rw[if_pos aa]
  refine aU ae Tryz.func277 rfl ae ?_
  (repeat' first|(refine ar (I) (h:=?_))|(refine au (I) (h:=?_))|(refine ab ?_;((repeat' first|exact True.intro|refine R.mk ?_ ?_);all_goals intros))|fail "")
  refine b2 (fun k:Nat=>⟨[(1,.ro (l.map encI)),(13,.ro (l.map encI)),(14,.lit (.int .i64 l.length)),(15,.lit (.int .i64 k))],[],0,Tryz.f277.ntmps⟩)
   (fun k=>k<=l.length /\ ∀ x ∈ l.take k,lD x) (fun k=>l.length - k) 0 ⟨Nat.zero_le _,by simp⟩ du ?_
  rintro k ⟨ag,ht⟩
  by_cases aJ:k<l.length
  ·(repeat' first|(refine ab ?_;((repeat' first|exact True.intro|refine R.mk ?_ ?_);all_goals intros))|fail "")
   all_goals first
    | (refine ⟨k+1,?_,?_,?_⟩;rotate_left 2;(exact ax);(exact bN);(focus (exact⟨aJ,Jl aJ ht (by unfold lD;omega)⟩)))
    | (refine bt (hr:=?_);rw[if_neg (fun h=>?_)];have:=h _ (cY aJ);unfold lD at this;omega)
  ·(repeat' first|(refine ab ?_;((repeat' first|exact True.intro|refine R.mk ?_ ?_);all_goals intros))|fail "")
   all_goals (refine bt (hr:=?_);rw[if_pos (by rw[List.take_of_length_le (by omega)] at ht;exact ht)])
 ·have I:=Cl p
  rw[show pP p=9 from if_neg aa] at I
  rw[if_neg aa]
  refine aU ae Tryz.func277 rfl ae ?_
  (repeat' first|(refine ar (I) (h:=?_))|(refine au (I) (h:=?_))|(refine ab ?_;((repeat' first|exact True.intro|refine R.mk ?_ ?_);all_goals intros))|fail "")
  all_goals exact bt (hr:=rfl)
theorem HP (p:fM) (hw:hE p) (l:List Int) (aq:l.length<=100):Fn Tryz.prog 282 [.agg (nr p),.ro (l.map encI)] (.lit (.int .i64 (kk p l))):=by
 have I:=Jo p hw
 unfold kk
 by_cases aa:lE p
 ·rw[show pP p=0 from if_pos aa] at I
  rw[if_pos aa]
  refine aU ae Tryz.func282 rfl ae ?_
  (repeat' first|(refine ar (I) (h:=?_))|(refine au (I) (h:=?_))|(refine ab ?_;((repeat' first|exact True.intro|refine R.mk ?_ ?_);all_goals intros))|fail "")
  refine b2 (fun x:Nat×Int=>⟨[(1,.ro (l.map encI)),(10,.ro (l.map encI)),(11,.lit (.int .i64 l.length)),(12,.lit (.int .i64 x.1)),(5,.lit (.int .i64 x.2))],[],0,Tryz.f282.ntmps⟩)
   (fun x=>x.1<=l.length/\(x.2=0/\(∀ y ∈ l.take x.1,lD y)\/x.2=6 /\ ¬ ∀ y ∈ l,lD y)) (fun x=>l.length - x.1) (0,0) ⟨Nat.zero_le _,.inl ⟨rfl,by simp⟩⟩ du ?_
  rintro ⟨k,e⟩ ⟨ag,ht⟩
  dsimp only at ag ht ⊢
  by_cases aJ:k<l.length
  ·rcases ht with⟨rfl,ht⟩ | ⟨rfl,ht⟩
   ·(repeat' first|(refine dM (cB _ _) (ht:=?_) (hff:=?_) <;> intro _ <;> try (exfalso;omega))|(refine dN (cB _ _) (ht:=?_) (hff:=?_) <;> intro _ <;> try (exfalso;omega))|(refine ab ?_;((repeat' first|exact True.intro|refine R.mk ?_ ?_);all_goals intros))|fail "")
    all_goals first
     | (refine ⟨(k+1,0),?_,?_,?_⟩;rotate_left 2;(exact ax);(exact bV);(focus (exact⟨aJ,.inl ⟨rfl,Jl aJ ht (by unfold lD;omega)⟩⟩)))
     | (refine ⟨(k+1,6),?_,?_,?_⟩;rotate_left 2;(exact ax);(exact bV);(focus (refine ⟨aJ,.inr ⟨rfl,fun h=>?_⟩⟩;have:=h _ (cY aJ);unfold lD at this;omega)))
   ·(repeat' first|(refine dM (cB _ _) (ht:=?_) (hff:=?_) <;> intro _ <;> try (exfalso;omega))|(refine dN (cB _ _) (ht:=?_) (hff:=?_) <;> intro _ <;> try (exfalso;omega))|(refine ab ?_;((repeat' first|exact True.intro|refine R.mk ?_ ?_);all_goals intros))|fail "")
    all_goals (refine ⟨(k+1,6),?_,?_,?_⟩;rotate_left 2;(exact ax);(exact bV);(focus (exact⟨aJ,.inr ⟨rfl,ht⟩⟩)))
  ·rcases ht with⟨rfl,ht⟩ | ⟨rfl,ht⟩
   ·(repeat' first|(refine ab ?_;((repeat' first|exact True.intro|refine R.mk ?_ ?_);all_goals intros))|fail "")
    all_goals (refine bt (hr:=?_);rw[if_pos (by rw[List.take_of_length_le (by omega)] at ht;exact ht)])
   ·(repeat' first|(refine ab ?_;((repeat' first|exact True.intro|refine R.mk ?_ ?_);all_goals intros))|fail "")
    all_goals (refine bt (hr:=?_);rw[if_neg ht])
 ·rw[show pP p=9 from if_neg aa] at I
  rw[if_neg aa]
  refine aU ae Tryz.func282 rfl ae ?_
  (repeat' first|(refine ar (I) (h:=?_))|(refine au (I) (h:=?_))|(refine ab ?_;((repeat' first|exact True.intro|refine R.mk ?_ ?_);all_goals intros))|fail "")
  refine b2 (fun k:Nat=>⟨[(1,.ro (l.map encI)),(10,.ro (l.map encI)),(11,.lit (.int .i64 l.length)),(12,.lit (.int .i64 k)),(5,.lit (.int .i64 9))],[],0,Tryz.f282.ntmps⟩)
   (fun k=>k<=l.length) (fun k=>l.length - k) 0 (Nat.zero_le _) du ?_
  intro k ag
  by_cases aJ:k<l.length
  ·(repeat' first|(refine dM (cB _ _) (ht:=?_) (hff:=?_) <;> intro _ <;> try (exfalso;omega))|(refine dN (cB _ _) (ht:=?_) (hff:=?_) <;> intro _ <;> try (exfalso;omega))|(refine ab ?_;((repeat' first|exact True.intro|refine R.mk ?_ ?_);all_goals intros))|fail "")
   all_goals (refine ⟨k+1,?_,?_,?_⟩;rotate_left 2;(exact ax);(exact bN);(exact gI))
  ·(repeat' first|(refine ab ?_;((repeat' first|exact True.intro|refine R.mk ?_ ?_);all_goals intros))|fail "")
   all_goals exact bt (hr:=rfl)
def ov (p:fM) (n s t:Int):fM×Int:=
 if kk p [n,s,t]≠0 then(⟨0,0,0,0⟩,kk p [n,s,t])
 else if p.dW<n then(⟨0,0,0,0⟩,13)
 else if s<=p.Since then(⟨p.cK,p.eE,p.dW - n,p.Since⟩,0)
 else(⟨max (p.cK / 2) 200,max (p.cK / 2) 200,p.dW - n,max t s⟩,0)
theorem ua {p:fM} {l:List Int} (h:kk p l=0):lE p /\ ∀ x ∈ l,lD x:=by
 unfold kk at h
 split at h
 ·rename_i I
  split at h
  ·rename_i J;exact⟨I,J⟩
  ·omega
 ·omega
theorem Q7 (p:fM) (n s t:Int):Fn Tryz.prog 231 [.agg (nr p),.lit (.int .i64 n),.lit (.int .i64 s),.lit (.int .i64 t)] (.b0 [.agg (nr (ov p n s t).1),.lit (.int .i64 (ov p n s t).2)]):=by
 have I:=HO p [n,s,t] (by simp)
 unfold ov
 by_cases af:kk p [n,s,t]=0
 ·obtain ⟨aa,aq⟩:=ua af
  rw[af] at I ⊢
  rw[if_neg (by omega)]
  unfold lE at aa
  have bj:=aq n (by simp)
  have hb:=aq s (by simp)
  have hc:=aq t (by simp)
  unfold lD at bj hb hc
  refine aU ae Tryz.func231 rfl ae ?_
  (repeat' first|(refine ar (I) (h:=?_))|(refine au (I) (h:=?_))|(refine ab ?_;((repeat' first|exact True.intro|refine R.mk ?_ ?_);all_goals intros))|fail "")
  all_goals (refine bt (hr:=?_))
  all_goals first
   | (rw[if_pos (by omega)];rfl)
   | (rw[if_neg (by omega),if_pos (by omega)];rfl)
   | (rw[if_neg (by omega),if_neg (by omega)];rfl)
 ·rw[if_pos af]
  generalize kk p [n,s,t]=e at *
  refine aU ae Tryz.func231 rfl ae ?_
  (repeat' first|(refine ar (I) (h:=?_))|(refine au (I) (h:=?_))|(refine ab ?_;((repeat' first|exact True.intro|refine R.mk ?_ ?_);all_goals intros))|fail "")
  all_goals (refine bt (hr:=?_);rfl)
theorem Qh (p:fM) (hw:hE p) (n s t:Int):Fn Tryz.prog 234 [.agg (nr p),.lit (.int .i64 n),.lit (.int .i64 s),.lit (.int .i64 t)] (.b0 [.agg (nr (ov p n s t).1),.lit (.int .i64 (ov p n s t).2)]):=by
 have I:=HP p hw [n,s,t] (by simp)
 unfold ov
 by_cases af:kk p [n,s,t]=0
 ·obtain ⟨aa,aq⟩:=ua af
  rw[af] at I ⊢
  rw[if_neg (by omega)]
  unfold lE at aa
  have bj:=aq n (by simp)
  have hb:=aq s (by simp)
  have hc:=aq t (by simp)
  unfold lD at bj hb hc
  refine aU ae Tryz.func234 rfl ae ?_
  (repeat' first|(refine ar (I) (h:=?_))|(refine au (I) (h:=?_))|(refine ab ?_;((repeat' first|exact True.intro|refine R.mk ?_ ?_);all_goals intros))|fail "")
  all_goals (refine bt (hr:=?_))
  all_goals first
   | (rw[if_pos (by omega)];rfl)
   | (rw[if_neg (by omega),if_pos (by omega)];rfl)
   | (rw[if_neg (by omega),if_neg (by omega),Int.max_comm _ 200,Int.max_comm t s];rfl)
 ·rw[if_pos af]
  generalize kk p [n,s,t]=e at *
  refine aU ae Tryz.func234 rfl ae ?_
  (repeat' first|(refine ar (I) (h:=?_))|(refine au (I) (h:=?_))|(refine ab ?_;((repeat' first|exact True.intro|refine R.mk ?_ ?_);all_goals intros))|fail "")
  all_goals (refine bt (hr:=?_);rfl)
end
end Go.Proofs.YtendheafcbickaaGreat
