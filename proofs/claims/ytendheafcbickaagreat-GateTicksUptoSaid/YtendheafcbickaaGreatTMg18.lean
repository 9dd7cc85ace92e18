/-
  SEVERAL TEXTS IN ONE: each with its own comment.
-/
import Derived.Test.YtendheafcbickaaGreatTZip
import Derived.Test.YtendheafcbickaaGreatTGo
import Derived.Test.YtendheafcbickaaGreatTMg17
import Derived.Test.YtendheafcbickaaGreatTRgsCut
import Derived.Test.YtendheafcbickaaGreatTAbsB
import Derived.Test.YtendheafcbickaaGreatProg
import Derived.Shelf.SlSortFuncK.WholeK
import Derived.Shelf.GgSortFunc.Tiny
import Derived.Deep.QuietTactic
import Derived.WalkKit
set_option linter.unusedVariables false
set_option linter.unusedSimpArgs false
set_option maxHeartbeats 16000000
namespace Go.Proofs.YtendheafcbickaaGreat
section
set_option maxRecDepth 100000
attribute [local irreducible] cq a8 bw GStep Fn cu bk
theorem O5 (l:List aQ) (r:aQ) (hw:∀ y,y ∈ l->fz y) (aq:l.length * 16<=140737488351232):Fn Tryz.prog 285 [.ro (l.map aD),.agg (aD r)] (.b0 [.ro ((vT l r).1.map aD),.lit (.int .i64 (vT l r).2)]):=by
 have I:=Dt l r hw (by omega)
 unfold vT
 by_cases af:ih l r=0
 ·obtain ⟨ap,hr⟩:=Du af
  rw[af] at I ⊢
  rw[if_neg (by omega)]
  refine aU ae Tryz.func285 rfl ae ?_
  (repeat' first|(refine ar (I) (h:=?_))|(refine au (I) (h:=?_))|(refine ab ?_;((repeat' first|exact True.intro|refine R.mk ?_ ?_);all_goals intros))|fail "")
  refine b2 (fun k:Nat=>⟨[(3,.ptr 0 0 0 0),(18,.ro (l.map aD)),(19,.lit (.int .i64 l.length)),(20,.lit (.int .i64 k)),(7,.ro ((jS l r k).map aD))],[(0,some (.box 146 (aD r)))],1,Tryz.f285.ntmps⟩)
   (fun k=>k<=l.length) (fun k=>l.length - k) 0 (Nat.zero_le _) du ?_
  intro k ag
  by_cases aJ:k<l.length
  ·obtain ⟨U,_⟩:=ji ap _ (cY aJ)
   obtain ⟨M1,X2⟩:=sG (r:=r) ap hr k ag
   have hc:=Hz (jS l r k) (l.getD k default) (wf_set M1) (by omega)
   rw[Vn M1 U,<- C2 aJ] at hc
   dsimp only at hc
   (repeat' first|(refine ar (hc) (h:=?_))|(refine au (hc) (h:=?_))|(refine ab ?_;((repeat' first|exact True.intro|refine R.mk ?_ ?_);all_goals intros))|fail "")
   all_goals (refine ⟨k+1,?_,?_,?_⟩;rotate_left 2;(exact ax);(exact bN);(exact gI))
  ·have ct:k=l.length:=by omega
   subst ct
   (repeat' first|(refine ab ?_;((repeat' first|exact True.intro|refine R.mk ?_ ?_);all_goals intros))|fail "")
   all_goals exact bt (hr:=rfl)
 ·rw[if_pos af]
  generalize ih l r=e at *
  refine aU ae Tryz.func285 rfl ae ?_
  (repeat' first|(refine ar (I) (h:=?_))|(refine au (I) (h:=?_))|(refine ab ?_;((repeat' first|exact True.intro|refine R.mk ?_ ?_);all_goals intros))|fail "")
  all_goals (exact bD)
end
section
def gX (l:List aQ) (n:Int):Prop:=∃ x ∈ l,x.bs<=n/\n<=x.br
theorem vp {n:Int}:¬ gX [] n:=fun ⟨_,h,_⟩=>by cases h
theorem mL {x:aQ} {l:List aQ} {n:Int}:gX (x :: l) n ↔ (x.bs<=n/\n<=x.br)\/gX l n:=by
 constructor
 ·rintro ⟨y,ai,h⟩
  rcases List.mem_cons.1 ai with rfl|ai
  ·exact .inl h
  ·exact .inr ⟨y,ai,h⟩
 ·rintro (h | ⟨y,ai,h⟩)
  ·exact⟨x,List.mem_cons_self ..,h⟩
  ·exact⟨y,List.mem_cons_of_mem _ ai,h⟩
theorem HE {l m:List aQ} {n:Int}:gX (l++m) n ↔ gX l n\/gX m n:=by
 induction l with
 | nil=>simp[vp]
 | cons x l cf=>rw[List.cons_append,mL,mL,cf,or_assoc]
theorem M2 {x:aQ} {n:Int}:gX [x] n ↔ x.bs<=n/\n<=x.br:=by rw[mL];simp[vp]
theorem VA {l m:List aQ} (h:∀ x,x ∈ l ↔ x ∈ m) {n:Int}:gX l n ↔ gX m n:=
 ⟨fun ⟨x,U,q⟩=>⟨x,(h x).1 U,q⟩,fun ⟨x,U,q⟩=>⟨x,(h x).2 U,q⟩⟩
theorem M3 {l:List aQ} {a:Int} (h:ed a l) {n:Int} (hn:gX l n):a+2<=n:=by
 obtain ⟨x,U,I,J⟩:=hn
 have:=(ji h x U).2
 omega
theorem M4 {l:List aQ} {a:Int} (h:ed a l) {x:aQ} (U:x ∈ l):gX l x.bs/\gX l x.br:=by
 have aj:=(ji h x U).1
 unfold b9 at aj
 exact⟨⟨x,U,Int.le_refl _,aj.2.1⟩,⟨x,U,aj.2.1,Int.le_refl _⟩⟩
theorem M5:∀ {l m:List aQ} {a b:Int},ed a l->ed b m->(∀ n,gX l n ↔ gX m n)->l=m
 | [],[],_,_,_,_,_=>rfl
 | [],y :: m,_,_,_,h,e=>absurd ((e y.bs).2 (M4 h (List.mem_cons_self ..)).1) vp
 | x :: l,[],_,_,h,_,e=>absurd ((e x.bs).1 (M4 h (List.mem_cons_self ..)).1) vp
 | x :: l,y :: m,a,b,aq,hm,e=>by
  have VB:=aq.1
  have VC:=hm.1
  unfold b9 at VB VC
  have ln:∀ n,gX l n->x.br+2<=n:=fun n h=>M3 aq.2.2 h
  have BQ:∀ n,gX m n->y.br+2<=n:=fun n h=>M3 hm.2.2 h
  have key:∀ n,((x.bs<=n/\n<=x.br)\/gX l n) ↔ ((y.bs<=n/\n<=y.br)\/gX m n):=fun n=>by rw[<- mL,<- mL];exact e n
  have eG:x.bs=y.bs:=by
   have I:=(key x.bs).1 (.inl (by omega))
   have J:=(key y.bs).2 (.inl (by omega))
   rcases I with I|I
   ·rcases J with J|J
    ·omega
    ·have:=ln _ J;omega
   ·rcases J with J|J
    ·have:=BQ _ I;omega
    ·have:=ln _ J;have:=BQ _ I;omega
  have h8:x.br=y.br:=by
   rcases Int.lt_trichotomy x.br y.br with h|h|h
   ·exfalso
    rcases (key (x.br+1)).2 (.inl (by omega)) with I|I
    ·omega
    ·have:=ln _ I;omega
   ·exact h
   ·exfalso
    rcases (key (y.br+1)).1 (.inl (by omega)) with I|I
    ·omega
    ·have:=BQ _ I;omega
  have VD:x=y:=Hq eG h8
  subst VD
  congr 1
  refine M5 aq.2.2 hm.2.2 (fun n=>⟨fun h=>?_,fun h=>?_⟩)
  ·rcases (key n).1 (.inr h) with I|I
   ·have:=ln _ h;omega
   ·exact I
  ·rcases (key n).2 (.inr h) with I|I
   ·have:=BQ _ h;omega
   ·exact I
def hL:List aQ->aQ->List aQ
 | [],r=>[r]
 | x :: l,r=>if x.br+1<r.bs then x :: hL l r else if r.br+1<x.bs then r :: x :: l else hL l ⟨min r.bs x.bs,max r.br x.br⟩
theorem CZ:∀ {l:List aQ} {r:aQ} {n:Int},r.bs<=r.br->(∀ x ∈ l,x.bs<=x.br)->(gX (hL l r) n ↔ gX l n\/(r.bs<=n/\n<=r.br))
 | [],r,n,_,_=>by unfold hL;rw[M2];simp[vp]
 | x :: l,r,n,hr,U=>by
  have I:=U x (List.mem_cons_self ..)
  have aq:=fun y ai=>U y (List.mem_cons_of_mem x ai)
  unfold hL
  split
  ·rw[mL,mL,CZ hr aq,or_assoc]
  ·split
   ·rw[mL,or_comm]
   ·rw[CZ (r:=⟨min r.bs x.bs,max r.br x.br⟩) (show min r.bs x.bs<=max r.br x.br by omega) aq,mL]
    dsimp only
    constructor
    ·rintro (h|h)
     ·exact .inl (.inr h)
     ·by_cases J:r.bs<=n/\n<=r.br
      ·exact .inr J
      ·exact .inl (.inl (by omega))
    ·rintro ((h|h)|h)
     ·exact .inr (by omega)
     ·exact .inl h
     ·exact .inr (by omega)
theorem CX:∀ {l:List aQ} {r:aQ} {a:Int},ed a l->b9 r->a+2<=r.bs->ed a (hL l r)
 | [],r,a,_,hr,bj=>⟨hr,bj,trivial⟩
 | x :: l,r,a,h,hr,bj=>by
  have U:=h.1
  have J:=h.2.1
  unfold hL
  split
  ·exact⟨U,J,CX h.2.2 hr (by omega)⟩
  ·split
   ·exact⟨hr,bj,U,by omega,h.2.2⟩
   ·unfold b9 at U hr
    exact CX (we h.2.2 (by omega)) sN kU
theorem CY:∀ (l:List aQ) (r:aQ),(hL l r).length<=l.length+1
 | [],r=>by simp[hL]
 | x :: l,r=>by
  unfold hL
  split
  ·have:=CY l r;simp;omega
  ·split
   ·simp
   ·have:=CY l ⟨min r.bs x.bs,max r.br x.br⟩;simp;omega
def o5 (c:aQ):List aQ->List aQ
 | []=>[c]
 | r :: m=>if r.bs<=c.br+1 then o5 ⟨c.bs,max c.br r.br⟩ m else c :: o5 r m
def vR:List aQ->List aQ
 | []=>[]
 | x :: m=>o5 x m
def mE:Int->List aQ->Prop
 | _,[]=>True
 | a,x :: l=>a<=x.bs/\mE x.bs l
theorem M6:∀ {l:List aQ} {a b:Int},mE a l->b<=a->mE b l
 | [],_,_,_,_=>trivial
 | x :: l,a,b,h,hb=>⟨by have:=h.1;omega,h.2⟩
theorem Gm:∀ {m:List aQ} {c:aQ} {n:Int},c.bs<=c.br->(∀ x ∈ m,x.bs<=x.br)->mE c.bs m->(gX (o5 c m) n ↔ (c.bs<=n/\n<=c.br)\/gX m n)
 | [],c,n,_,_,_=>by unfold o5;rw[M2];simp[vp]
 | r :: m,c,n,hc,hm,ap=>by
  have I:=hm r (List.mem_cons_self ..)
  have aq:=fun y ai=>hm y (List.mem_cons_of_mem r ai)
  have J:=ap.1
  unfold o5
  split
  ·rw[Gm (c:=⟨c.bs,max c.br r.br⟩) (show c.bs<=max c.br r.br by omega) aq (M6 ap.2 J),mL]
   dsimp only
   constructor
   ·rintro (h|h)
    ·by_cases av:c.bs<=n/\n<=c.br
     ·exact .inl av
     ·exact .inr (.inl (by omega))
    ·exact .inr (.inr h)
   ·rintro (h|h|h)
    ·exact .inl (by omega)
    ·exact .inl (by omega)
    ·exact .inr h
  ·rw[mL,Gm I aq ap.2,mL]
theorem Gn:∀ {m:List aQ} {c:aQ} {a:Int},b9 c->(∀ x ∈ m,b9 x)->mE c.bs m->a+2<=c.bs->ed a (o5 c m)
 | [],c,a,hc,_,_,bj=>⟨hc,bj,trivial⟩
 | r :: m,c,a,hc,hm,ap,bj=>by
  have I:=hm r (List.mem_cons_self ..)
  have aq:=fun y ai=>hm y (List.mem_cons_of_mem r ai)
  have J:=ap.1
  unfold o5
  split
  ·unfold b9 at hc I
   exact Gn sN aq (M6 ap.2 J) bj
  ·exact⟨hc,bj,Gn I aq ap.2 (by omega)⟩
theorem VE {m:List aQ} (hm:∀ x ∈ m,b9 x) (ap:mE 0 m) {n:Int}:gX (vR m) n ↔ gX m n:=by
 cases m with
 | nil=>exact Iff.rfl
 | cons x m=>
  unfold vR
  rw[Gm (hm x (List.mem_cons_self ..)).2.1 (fun y ai=>(hm y (List.mem_cons_of_mem _ ai)).2.1) ap.2,mL]
theorem VF {m:List aQ} (hm:∀ x ∈ m,b9 x) (ap:mE 0 m):ed (-2) (vR m):=by
 cases m with
 | nil=>trivial
 | cons x m=>
  have I:=hm x (List.mem_cons_self ..)
  exact Gn I (fun y ai=>hm y (List.mem_cons_of_mem _ ai)) ap.2 (by unfold b9 at I;omega)
theorem OX {l m cN:List aQ} (hm:∀ x,x ∈ m ↔ x ∈ l) (aq:∀ x ∈ l,b9 x) (ap:mE 0 m) (bn:ed (-2) cN) (eT:∀ n,gX cN n ↔ gX l n):vR m=cN:=by
 have ei:∀ x ∈ m,b9 x:=fun x U=>aq x ((hm x).1 U)
 exact M5 (VF ei ap) bn (fun n=>by rw[VE ei ap,eT,VA hm])
def vS (l:List aQ) (r:aQ):List aQ×Int:=if ih l r≠0 then([],ih l r) else(hL l r,0)
end
section
set_option maxRecDepth 100000
attribute [local irreducible] cq a8 bw GStep Fn cu bk cU
structure tS where
 k:Nat
 r:aQ
 put:Bool
 out:List aQ
structure VG (l A:List aQ) (x:tS):Prop where
 k:x.k<=l.length
 r:b9 x.r
 no:x.put=false->x.out++hL (l.drop x.k) x.r=A/\x.out.length<=x.k
 yes:x.put=true->x.out++l.drop x.k=A/\x.out.length<=x.k+1/\ed x.r.br (l.drop x.k)
theorem M7:∀ {l:List aQ} {a:Int} {k:Nat},ed a l->k<l.length->ed (l.getD k default).br (l.drop (k+1))
 | [],_,_,_,h=>by simp at h
 | x :: l,a,0,h,_=>h.2.2
 | x :: l,a,k+1,h,ag=>by
  have:=M7 (k:=k) h.2.2 (by simpa using ag)
  simpa using this
theorem O6 (l:List aQ) (r:aQ) (hw:∀ y,y ∈ l->fz y) (aq:l.length * 16<=140737488355312):Fn Tryz.prog 241 [.ro (l.map aD),.agg (aD r)] (.b0 [.ro ((vS l r).1.map aD),.lit (.int .i64 (vS l r).2)]):=by
 have I:=Dt l r hw aq
 unfold vS
 by_cases af:ih l r=0
 ·obtain ⟨ap,hr⟩:=Du af
  rw[af] at I ⊢
  rw[if_neg (by omega)]
  generalize b1:hL l r=A
  dsimp only
  refine aU ae Tryz.func241 rfl ae ?_
  (repeat' first|(refine ar (I) (h:=?_))|(refine au (I) (h:=?_))|(refine ab ?_;((repeat' first|exact True.intro|refine R.mk ?_ ?_);all_goals intros))|fail "")
  refine b2 (fun x:tS=>⟨[(3,.ptr 0 0 0 0),(17,.ro (l.map aD)),(18,.lit (.int .i64 l.length)),(19,.lit (.int .i64 x.k)),(7,.own 1),(8,.lit (.bool x.put))],[(0,some (.box 146 (aD x.r))),(1,some (.row 146 2 (x.out.map aD)))],2,Tryz.f241.ntmps⟩)
   (VG l A) (fun x=>l.length - x.k) (tS.mk 0 r false []) ⟨Nat.zero_le _,hr,fun _=>⟨b1,Nat.zero_le _⟩,fun h=>by cases h⟩ ((ic (n:=1) (t:=7) 146 2 rfl rfl rfl).trans du) ?_
  rintro ⟨k,r,b,out⟩ ⟨ag,hr,ft,oX⟩
  dsimp only at ag hr ft oX ⊢
  by_cases aJ:k<l.length
  ·obtain ⟨U,zO⟩:=ji ap _ (cY aJ)
   rw[drop_cons aJ] at ft oX
   have X3:=U
   have Gp:=hr
   have VH:ed (l.getD k default).br (l.drop (k+1)):=M7 ap aJ
   unfold b9 at U hr
   cases b
   ·obtain ⟨ft,eG⟩:=ft rfl
    clear oX I b1
    unfold hL at ft
    by_cases aK:(l.getD k default).br+1<r.bs
    ·rw[if_pos aK] at ft
     (repeat' first|(refine cx (r:=(out++[l.getD k default]).map aD) ?_ ?_ ?_ ?_ (h:=?_);(exact aM);(exact al);(exact an);(exact ao))|(refine cD (r:=(out++[l.getD k default]).map aD) ?_ ?_ ?_ ?_ (h:=?_);(exact aM);(exact al);(exact an);(exact ao))|(refine cE (r:=(out++[l.getD k default]).map aD) ?_ ?_ ?_ ?_ (h:=?_);(exact aM);(exact al);(exact an);(exact ao))|(refine cF (r:=(out++[l.getD k default]).map aD) ?_ ?_ ?_ ?_ (h:=?_);(exact aM);(exact al);(exact an);(exact ao))|(refine ab ?_;((repeat' first|exact True.intro|refine R.mk ?_ ?_);all_goals intros))|fail "")
     all_goals (refine ⟨tS.mk (k+1) r false (out++[l.getD k default]),?_,?_,?_⟩;rotate_left 2;(exact ax);(focus ((dsimp only;omega)));(focus (exact⟨aJ,Gp,fun _=>⟨by rw[<- ft];simp,by simp;omega⟩,fun h=>by cases h⟩)))
    ·rw[if_neg aK] at ft
     by_cases aX:r.br+1<(l.getD k default).bs
     ·rw[if_pos aX] at ft
      (repeat' first|(refine cx (r:=(out++[r]).map aD) ?_ ?_ ?_ ?_ (h:=?_);(exact aM);(exact al);(exact an);(exact ao))|(refine cD (r:=(out++[r]).map aD) ?_ ?_ ?_ ?_ (h:=?_);(exact aM);(exact al);(exact an);(exact ao))|(refine cE (r:=(out++[r]).map aD) ?_ ?_ ?_ ?_ (h:=?_);(exact aM);(exact al);(exact an);(exact ao))|(refine cF (r:=(out++[r]).map aD) ?_ ?_ ?_ ?_ (h:=?_);(exact aM);(exact al);(exact an);(exact ao))|(refine cx (r:=(out++[r]++[l.getD k default]).map aD) ?_ ?_ ?_ ?_ (h:=?_);(exact Ab);(exact al);(exact an);(exact ao))|(refine cD (r:=(out++[r]++[l.getD k default]).map aD) ?_ ?_ ?_ ?_ (h:=?_);(exact Ab);(exact al);(exact an);(exact ao))|(refine cE (r:=(out++[r]++[l.getD k default]).map aD) ?_ ?_ ?_ ?_ (h:=?_);(exact Ab);(exact al);(exact an);(exact ao))|(refine cF (r:=(out++[r]++[l.getD k default]).map aD) ?_ ?_ ?_ ?_ (h:=?_);(exact Ab);(exact al);(exact an);(exact ao))|(refine ab ?_;((repeat' first|exact True.intro|refine R.mk ?_ ?_);all_goals intros))|fail "")
      all_goals (refine ⟨tS.mk (k+1) r true (out++[r]++[l.getD k default]),?_,?_,?_⟩;rotate_left 2;(exact ax);(focus ((dsimp only;omega)));(focus (exact⟨aJ,Gp,fun h=>(by cases h),fun _=>⟨by rw[<- ft];simp,by simp;omega,we VH kU⟩⟩)))
     ·rw[if_neg aX] at ft
      (repeat' first|(refine ab ?_;((repeat' first|exact True.intro|refine R.mk ?_ ?_);all_goals intros))|fail "")
      all_goals (refine ⟨tS.mk (k+1) ⟨min r.bs (l.getD k default).bs,max r.br (l.getD k default).br⟩ false out,?_,?_,?_⟩;rotate_left 2;(exact ax);(focus ((dsimp only;omega)));(focus (exact⟨aJ,by unfold b9;dsimp only;omega,fun _=>⟨ft,by dsimp only;omega⟩,fun h=>by cases h⟩)))
   ·obtain ⟨oX,eG,rC⟩:=oX rfl
    have hb:=rC.2.1
    clear ft I b1
    (repeat' first|(refine cx (r:=(out++[l.getD k default]).map aD) ?_ ?_ ?_ ?_ (h:=?_);(exact aM);(exact al);(exact an);(exact ao))|(refine cD (r:=(out++[l.getD k default]).map aD) ?_ ?_ ?_ ?_ (h:=?_);(exact aM);(exact al);(exact an);(exact ao))|(refine cE (r:=(out++[l.getD k default]).map aD) ?_ ?_ ?_ ?_ (h:=?_);(exact aM);(exact al);(exact an);(exact ao))|(refine cF (r:=(out++[l.getD k default]).map aD) ?_ ?_ ?_ ?_ (h:=?_);(exact aM);(exact al);(exact an);(exact ao))|(refine ab ?_;((repeat' first|exact True.intro|refine R.mk ?_ ?_);all_goals intros))|fail "")
    all_goals (refine ⟨tS.mk (k+1) r true (out++[l.getD k default]),?_,?_,?_⟩;rotate_left 2;(exact ax);(focus ((dsimp only;omega)));(focus (exact⟨aJ,Gp,fun h=>(by cases h),fun _=>⟨by rw[<- oX];simp,by simp;omega,we rC.2.2 kU⟩⟩)))
  ·have hd:l.drop k=[]:=List.drop_eq_nil_of_le (by omega)
   rw[hd] at ft oX
   cases b
   ·obtain ⟨ft,eG⟩:=ft rfl
    (repeat' first|(refine cx (r:=A.map aD) ?_ ?_ ?_ ?_ (h:=?_);(exact z7);(exact al);(exact an);(exact ao))|(refine cD (r:=A.map aD) ?_ ?_ ?_ ?_ (h:=?_);(exact z7);(exact al);(exact an);(exact ao))|(refine cE (r:=A.map aD) ?_ ?_ ?_ ?_ (h:=?_);(exact z7);(exact al);(exact an);(exact ao))|(refine cF (r:=A.map aD) ?_ ?_ ?_ ?_ (h:=?_);(exact z7);(exact al);(exact an);(exact ao))|(refine ab ?_;((repeat' first|exact True.intro|refine R.mk ?_ ?_);all_goals intros))|fail "")
    all_goals (refine bt (hr:=?_);rfl)
   ·obtain ⟨oX,eG,_⟩:=oX rfl
    rw[List.append_nil] at oX
    (repeat' first|(refine ab ?_;((repeat' first|exact True.intro|refine R.mk ?_ ?_);all_goals intros))|fail "")
    all_goals (refine bt (hr:=?_);rw[oX])
 ·rw[if_pos af]
  generalize ih l r=e at *
  refine aU ae Tryz.func241 rfl ae ?_
  (repeat' first|(refine ar (I) (h:=?_))|(refine au (I) (h:=?_))|(refine ab ?_;((repeat' first|exact True.intro|refine R.mk ?_ ?_);all_goals intros))|fail "")
  all_goals (exact bD)
end
section
open Go.Shelf
def VI:Go.Shelf.Ren:=⟨fun|6=>295|10=>309|11=>310|12=>311|13=>312|14=>313|24=>324|25=>325|26=>326|27=>327|28=>328|29=>329|30=>330|31=>331|32=>332|33=>333|34=>343|35=>344|36=>345|37=>346|38=>347|39=>354|n=>n,fun|20=>20|26=>108|35=>355|0=>0|37=>357|3=>3|41=>238|44=>362|49=>368|51=>22|4=>4|54=>372|53=>371|58=>376|5=>5|9=>9|60=>385|64=>389|66=>394|67=>395|17=>17|32=>352|33=>353|82=>412|12=>12|75=>405|76=>406|77=>407|78=>408|79=>409|80=>410|n=>n,fun|n=>n⟩
theorem Mp:Go.Proofs.LaysGg.n6 Tryz.prog VI:={
 mixed:=by kernel_rfl,
 f6:=Tryz.func295.trans (congrArg some ae),
 f10:=Tryz.func309.trans (congrArg some ae),
 f11:=Tryz.func310.trans (congrArg some ae),
 f12:=Tryz.func311.trans (congrArg some ae),
 f13:=Tryz.func312.trans (congrArg some ae),
 f14:=Tryz.func313.trans (congrArg some ae),
 f24:=Tryz.func324.trans (congrArg some ae),
 f25:=Tryz.func325.trans (congrArg some ae),
 f26:=Tryz.func326.trans (congrArg some ae),
 f27:=Tryz.func327.trans (congrArg some ae),
 f28:=Tryz.func328.trans (congrArg some ae),
 f29:=Tryz.func329.trans (congrArg some ae),
 f30:=Tryz.func330.trans (congrArg some ae),
 f31:=Tryz.func331.trans (congrArg some ae),
 f32:=Tryz.func332.trans (congrArg some ae),
 f33:=Tryz.func333.trans (congrArg some ae),
 f34:=Tryz.func343.trans (congrArg some ae),
 f35:=Tryz.func344.trans (congrArg some ae),
 f36:=Tryz.func345.trans (congrArg some ae),
 f37:=Tryz.func346.trans (congrArg some ae),
 f38:=Tryz.func347.trans (congrArg some ae),
 f39:=Tryz.func354.trans (congrArg some ae),
 t0:=Tryz.underlying0,
 a0:=Tryz.isAgg0,
 z0:=Tryz.sizeOf0,
 v0:=Tryz.zeroValue0,
 i0:=by kernel_rfl,
 t3:=Tryz.underlying3,
 a3:=Tryz.isAgg3,
 z3:=Tryz.sizeOf3,
 v3:=Tryz.zeroValue3,
 i3:=by kernel_rfl,
 t4:=Tryz.underlying4,
 a4:=Tryz.isAgg4,
 z4:=Tryz.sizeOf4,
 v4:=Tryz.zeroValue4,
 i4:=by kernel_rfl,
 t5:=Tryz.underlying5,
 a5:=Tryz.isAgg5,
 z5:=Tryz.sizeOf5,
 v5:=Tryz.zeroValue5,
 i5:=by kernel_rfl,
 t9:=Tryz.underlying9,
 a9:=Tryz.isAgg9,
 z9:=Tryz.sizeOf9,
 v9:=Tryz.zeroValue9,
 i9:=by kernel_rfl,
 t12:=Tryz.underlying12,
 a12:=Tryz.isAgg12,
 z12:=Tryz.sizeOf12,
 v12:=Tryz.zeroValue12,
 i12:=by kernel_rfl,
 t17:=Tryz.underlying17,
 a17:=Tryz.isAgg17,
 z17:=Tryz.sizeOf17,
 v17:=Tryz.zeroValue17,
 i17:=by kernel_rfl,
 t20:=Tryz.underlying20,
 a20:=Tryz.isAgg20,
 z20:=Tryz.sizeOf20,
 v20:=Tryz.zeroValue20,
 i20:=by kernel_rfl,
 t26:=Tryz.underlying108,
 a26:=Tryz.isAgg108,
 z26:=Tryz.sizeOf108,
 v26:=Tryz.zeroValue108,
 i26:=by kernel_rfl,
 t32:=Tryz.underlying352,
 a32:=Tryz.isAgg352,
 z32:=Tryz.sizeOf352,
 v32:=Tryz.zeroValue352,
 i32:=by kernel_rfl,
 t33:=Tryz.underlying353,
 a33:=Tryz.isAgg353,
 z33:=Tryz.sizeOf353,
 v33:=Tryz.zeroValue353,
 i33:=by kernel_rfl,
 t35:=Tryz.underlying355,
 a35:=Tryz.isAgg355,
 z35:=Tryz.sizeOf355,
 v35:=Tryz.zeroValue355,
 i35:=by kernel_rfl,
 t37:=Tryz.underlying357,
 a37:=Tryz.isAgg357,
 z37:=Tryz.sizeOf357,
 v37:=Tryz.zeroValue357,
 i37:=by kernel_rfl,
 t41:=Tryz.underlying238,
 a41:=Tryz.isAgg238,
 z41:=Tryz.sizeOf238,
 v41:=Tryz.zeroValue238,
 i41:=by kernel_rfl,
 t44:=Tryz.underlying362,
 a44:=Tryz.isAgg362,
 z44:=Tryz.sizeOf362,
 v44:=Tryz.zeroValue362,
 i44:=by kernel_rfl,
 t49:=Tryz.underlying368,
 a49:=Tryz.isAgg368,
 z49:=Tryz.sizeOf368,
 v49:=Tryz.zeroValue368,
 i49:=by kernel_rfl,
 t51:=Tryz.underlying22,
 a51:=Tryz.isAgg22,
 z51:=Tryz.sizeOf22,
 v51:=Tryz.zeroValue22,
 i51:=by kernel_rfl,
 t53:=Tryz.underlying371,
 a53:=Tryz.isAgg371,
 z53:=Tryz.sizeOf371,
 v53:=Tryz.zeroValue371,
 i53:=by kernel_rfl,
 t54:=Tryz.underlying372,
 a54:=Tryz.isAgg372,
 z54:=Tryz.sizeOf372,
 v54:=Tryz.zeroValue372,
 i54:=by kernel_rfl,
 t58:=Tryz.underlying376,
 a58:=Tryz.isAgg376,
 z58:=Tryz.sizeOf376,
 v58:=Tryz.zeroValue376,
 i58:=by kernel_rfl,
 t60:=Tryz.underlying385,
 a60:=Tryz.isAgg385,
 z60:=Tryz.sizeOf385,
 v60:=Tryz.zeroValue385,
 i60:=by kernel_rfl,
 t64:=Tryz.underlying389,
 a64:=Tryz.isAgg389,
 z64:=Tryz.sizeOf389,
 v64:=Tryz.zeroValue389,
 i64:=by kernel_rfl,
 t66:=Tryz.underlying394,
 a66:=Tryz.isAgg394,
 z66:=Tryz.sizeOf394,
 v66:=Tryz.zeroValue394,
 i66:=by kernel_rfl,
 t67:=Tryz.underlying395,
 a67:=Tryz.isAgg395,
 z67:=Tryz.sizeOf395,
 v67:=Tryz.zeroValue395,
 i67:=by kernel_rfl,
 t75:=Tryz.underlying405,
 a75:=Tryz.isAgg405,
 z75:=Tryz.sizeOf405,
 v75:=Tryz.zeroValue405,
 i75:=by kernel_rfl,
 t76:=Tryz.underlying406,
 a76:=Tryz.isAgg406,
 z76:=Tryz.sizeOf406,
 v76:=Tryz.zeroValue406,
 i76:=by kernel_rfl,
 t77:=Tryz.underlying407,
 a77:=Tryz.isAgg407,
 z77:=Tryz.sizeOf407,
 v77:=Tryz.zeroValue407,
 i77:=by kernel_rfl,
 t78:=Tryz.underlying408,
 a78:=Tryz.isAgg408,
 z78:=Tryz.sizeOf408,
 v78:=Tryz.zeroValue408,
 i78:=by kernel_rfl,
 t79:=Tryz.underlying409,
 a79:=Tryz.isAgg409,
 z79:=Tryz.sizeOf409,
 v79:=Tryz.zeroValue409,
 i79:=by kernel_rfl,
 t80:=Tryz.underlying410,
 a80:=Tryz.isAgg410,
 z80:=Tryz.sizeOf410,
 v80:=Tryz.zeroValue410,
 i80:=by kernel_rfl,
 t82:=Tryz.underlying412,
 a82:=Tryz.isAgg412,
 z82:=Tryz.sizeOf412,
 v82:=Tryz.zeroValue412,
 i82:=by kernel_rfl }
end
section
open Go.Shelf Go.RowKit Go.Lib Go.Sort
set_option maxRecDepth 100000
def j5 (r:aQ):List Value:=[.int .i64 r.bs,.int .i64 r.br]
def sc (a b:aQ):Bool:=decide (a.bs<b.bs)
theorem VJ:SWO sc where
 irrefl:=fun x=>by simp[sc]
 trans:=fun x y z I J=>by simp[sc] at *;omega
 ntrans:=fun x y z I J=>by simp[sc] at *;omega
noncomputable def Mq:TypeInfo:=(Tryz.prog.info? 40).get ae
noncomputable def tJ:TypeInfo:=(Tryz.prog.info? 146).get ae
theorem VK (n:Nat) (J:2<=n):Lib.swapperK n tJ 25=9:=by
 have a:tJ.hasPointers=false:=by kernel_rfl
 have b:tJ.bytes=16:=by kernel_rfl
 have c:(n == 0)=false:=by simp;omega
 have d:(n == 1)=false:=by simp;omega
 simp[Lib.swapperK,a,b,c,d]
theorem VL (dB off c nd size:Nat) (W:World) (G:Nat->Int) (ap:W.cell? ⟨nd,0,none⟩=some (.slice (some ⟨dB,off,none⟩) size c))
  (hc:∀ t,t<size->W.cell? ⟨dB,off+t * 2,none⟩=some (.int .i64 (G t))) (i j:Nat) (hi:i<size) (ah:j<size) (_hsz:size<4611686018427387904) :
  Calls Tryz.prog 296 #[.int .i64 i,.int .i64 j,.pointer (some ⟨nd,0,none⟩)] W fun e aE=>e = .returned (.bool (decide (G i<G j))) /\ ∃ q,aE = W.drewN q:=by
 have ci:=hc i hi
 have X4:=hc j ah
 go_enter Tryz.func296,Tryz.ntmps296
 go_wp2
 go_quiet (fail)
 go_wp2
 go_ret
 exact⟨rfl,nq,rfl⟩
theorem Ux (dB off c nd:Nat) (d:Array aQ) (J:2<=d.size) (dZ:d.size<4611686018427387904) (w:World) (ak:HoldsK j5 2 w dB off d) (iZ:dB<w.heap.size)
  (BA:w.cell? ⟨nd,0,none⟩=some (.slice (some ⟨dB,off,none⟩) d.size c)) (VM:nd<w.heap.size) (FY:nd≠dB) :
  Calls Tryz.prog 295 #[.iface 40 (.slice (some ⟨dB,off,none⟩) d.size c),.func (.func 296) #[] #[.pointer (some ⟨nd,0,none⟩)]] w fun e aE=>
   e = .returned (.tuple #[]) /\ ∃ kH n os,PermIn 0 d.size d kH /\ SortedIn sc 0 d.size kH /\ aE = grow (putRowK j5 2 (Sort.ahead w n) dB off kH) os:=by
 have VN:LessReadsK Tryz.prog 296 #[.pointer (some ⟨nd,0,none⟩)] j5 2 sc dB off d.size w:=by
  intro m os yF ap i j hi ah
  have e:sortWorldK j5 2 w dB off m yF os=putRowK j5 2 (grow (Sort.ahead w m) os) dB off yF:=by
   unfold sortWorldK;rw[putRowK_grow _ _ (Sort.ahead w m) _ dB off _ iZ]
  have VO:HoldsK j5 2 (grow (Sort.ahead w m) os) dB off d:=holdsK_grow _ _ _ _ dB off d iZ (holdsK_ahead _ _ _ _ _ _ _ ak)
  refine VL dB off c nd d.size _ (fun t=>yF[t]!.bs) ?_ (fun t ht=>?_) i j hi ah (by omega)
  ·rw[e,cell?_putRowK_other _ _ _ dB off yF _ (by exact FY),cell?_grow _ _ _ (by exact VM)];exact BA
  ·rw[e];exact((holdsK_putRowK _ _ _ dB off d yF VO ap).cell (i:=t) (c:=0) (by omega) (by omega)).1
 exact Any.sort_Slice_cells_sorted Mp 40 146 Mq tJ ae ae ae ae 25 (fun _=>by kernel_rfl) j5 2 (fun _=>rfl) ae (fun _=>by kernel_rfl)
  (fun x v hv=>by simp[j5] at hv;rcases hv with rfl|rfl <;> rfl) sc VJ 296 _
  (enters_of Tryz.func296 ae rfl) dB off c d J dZ 323 (by rw[VK _ J];kernel_rfl) false
  (fun args W=>run_callFunc_extern Tryz.func323 ae ae ae (e:=Extern.ReflectliteSwapper.swap false) ae args W) w VN ak iZ
end
end Go.Proofs.YtendheafcbickaaGreat
