/-
  SEVERAL TEXTS IN ONE: each with its own comment.
-/
import Derived.Shelf.SlSortFuncK.WholeK
import Derived.Shelf.GgSortFunc.Tiny
import Derived.Deep.QuietTactic
import Derived.WalkKit
import Derived.Test.YtendheafcbickaaGreatCSndH
set_option linter.unusedVariables false
set_option linter.unusedSimpArgs false
set_option maxHeartbeats 16000000
namespace Go.Proofs.YtendheafcbickaaGreat
variable {a n:Int} {k t:Nat} {l m:List aK} {r x:aK} {u:Value}
section
set_option maxRecDepth 100000
attribute [local irreducible] cE a6 bu GStep Fn cg bf
theorem ZA (h:b9 x):fB x:=by unfold b9 at h;unfold fB aE;omega
theorem wf_set (h:eD a l):∀ y,y ∈ l->fB y:=fun y aj=>ZA (iC h y aj).1
def jb (l:List aK) (r:aK) (k:Nat):List aK:=(l.take k).foldl gh [r]
theorem Dr (h:k<l.length) (r:aK):jb l r (k+1)=gh (jb l r k) (l.getD k default):=by
 unfold jb;rw[mN h,List.foldl_append];rfl
theorem tI {l:List aK} {r:aK} (aw:eD (-2) l) (hr:b9 r):∀ k,k<=l.length->eD (-2) (jb l r k)/\(jb l r k).length<=k+1
 | 0,_=>⟨⟨hr,by unfold b9 at hr;omega,trivial⟩,by simp[jb]⟩
 | k+1,ag=>by
  obtain ⟨J,aa⟩:=tI aw hr k (by omega);have av:=(iC aw _ (cc (show k<l.length by omega))).1;rw[Dr (by omega)];exact⟨HR av J,by have:=xm av J;omega⟩
def Bq (l:List aK) (r:aK):List aK×Int:=if hF l r≠0 then([],hF l r) else(jb l r l.length,0)
theorem QQ (aw:eD (-2) l) (hr:b9 r):zg l r=(gh l r,0):=by
 have h:hF l r=0:=by unfold hF gi;rw[al aw,ah (by omega),al hr]
 unfold zg;rw[h,ah (by omega)]
def pO (r:aK) (s:Int×List aK) (x:aK):Int×List aK:=
 if x.bz<r.bE\/r.bz<x.bE then s else(x.bz+1,s.2++(if s.1<x.bE then[⟨s.1,x.bE - 1⟩] else[]))
def gu (l:List aK) (r:aK) (k:Nat):Int×List aK:=(l.take k).foldl (pO r) (r.bE,[])
def qI (r:aK) (s:Int×List aK):List aK:=s.2++(if s.1<=r.bz then[⟨s.1,r.bz⟩] else[])
theorem QR {x:aK}:∀ {out:List aK},(∀ y ∈ out,y.bE<=y.bz/\y.bz<x.bE)->x.bE<=x.bz->gh out x=out
 | [],_,_=>rfl
 | y :: out,h,U=>by
  obtain ⟨J,aa⟩:=h y (fV ..);rw[ze,QR (fun z aU=>h z (ha _ aU)) U];unfold pN;rw[al (by omega),ah (by omega),Int.min_eq_left (by omega)];rfl
theorem QS {r:aK} (hr:b9 r):∀ (l:List aK) (a:Int) (s:Int×List aK),eD a l->(∀ y ∈ s.2,y.bE<=y.bz/\y.bz<=a+1)->r.bE<=s.1->(s.1<=a+1\/s.1=r.bE) ->
  l.foldl gh (qI r s)=qI r (l.foldl (pO r) s)
 | [],_,_,_,_,_,_=>rfl
 | x :: l,a,(Br,out),h,aj,J,aa=>by
  have U:=h.1;have br:=h.2.1;unfold b9 at hr U;dsimp only at aj J aa;rw[List.foldl_cons,List.foldl_cons];have ZB:gh (qI r (Br,out)) x=qI r (pO r (Br,out) x):=by
   unfold qI;rw[NO,QR (fun y h=>by have:=aj y h;omega) (by omega)];unfold pO;dsimp only;by_cases b6:x.bz<r.bE\/r.bz<x.bE
   ·rw[al b6];dsimp only;by_cases cU:Br <= r.bz
    ·rw[al cU,HQ];unfold pN;dsimp only;rcases b6 with b6|b6
     ·rw[ah (by omega),al (by omega),Int.max_eq_left (by omega)];rfl
     ·rw[al (by omega),ah (by omega),Int.min_eq_left (by omega)];rfl
    ·rw[ah cU];rfl
   ·rw[ah b6];dsimp only;by_cases cU:Br <= r.bz
    ·rw[al cU,HQ];unfold pN;dsimp only;by_cases ek:Br < x.bE
     ·rw[al ek,al ek,Int.min_eq_right (by omega)];by_cases gp:x.bz<r.bz
      ·rw[al gp,al (by omega),Int.max_eq_right (by omega),lS]
      ·rw[ah gp,ah (by omega),lS]
     ·rw[ah ek,ah ek];by_cases gp:x.bz<r.bz
      ·rw[al gp,al (by omega),Int.max_eq_right (by omega),lV];rfl
      ·rw[ah gp,ah (by omega)];simp
    ·exfalso;omega
  rw[ZB];refine QS hr l x.bz _ h.2.2 ?_ ?_ ?_
  ·unfold pO;split
   ·intro y h;have:=aj y h;exact⟨this.1,by omega⟩
   ·intro y h;dsimp only at h;rw[gr] at h;rcases h with h|h
    ·have:=aj y h;exact⟨this.1,by omega⟩
    ·split at h
     ·rw[iX] at h;subst h;dsimp only;omega
     ·cases h
  ·unfold pO;split <;> dsimp only <;> omega
  ·unfold pO;split <;> dsimp only <;> omega
theorem Vx (aw:eD (-2) l) (hr:b9 r):jb l r l.length=qI r (gu l r l.length):=by
 have h:=QS hr l (-2) (r.bE,[]) aw (fun y h=>by cases h) (Int.le_refl _) (.inr rfl);unfold jb gu;rw[List.take_length,<- h];unfold qI;have:=hr.2.1;rw[al b4];rfl
theorem YK (l:List aK) (r:aK) (hw:∀ y,y ∈ l->fB y) (ao:l.length * 16<=140737488351232):Fn Tryz.prog 285 [.ro (l.map aB),.agg (aB r)] (.bN [.ro ((Bq l r).1.map aB),I (Bq l r).2]):=by
 have J:=HP l r hw (by omega);unfold Bq;by_cases ai:hF l r=0
 ·obtain ⟨aw,hr⟩:=CN ai;rw[ai] at J ⊢;rw[ah (by omega)];refine aH Tryz.func285 ?_;(refine bH J ?_;and_intros <;> intros);refine cv (fun k:Nat=>⟨[(3,.ptr 0 0 0 0),(18,.ro (l.map aB)),(19,I l.length),(20,I k),(7,.ro ((jb l r k).map aB))],[(0,some (.box 146 (aB r)))],1,Tryz.f285.ntmps⟩)
   (fun k=>k<=l.length) (fun k=>l.length - k) 0 (cm _) dV ?_
  intro k ag;by_cases au:k<l.length
  ·obtain ⟨U,_⟩:=iC aw _ (cc au);obtain ⟨xa,uW⟩:=tI (r:=r) aw hr k ag;have hc:=NR (jb l r k) (l.getD k default) (wf_set xa) (by omega);rw[QQ xa U,<- Dr au] at hc;dsimp only at hc;(refine bH hc ?_;and_intros <;> intros)
   all_goals (exact⟨k+1,(by omega),au,ba⟩)
  ·have ca:k=l.length:=by omega
   subst ca;(try refine ay ?_;and_intros <;> intros)
   all_goals exact bX (hr:=rfl)
 ·rw[al ai];generalize hF l r=e at *;refine aH Tryz.func285 ?_;(refine bH J ?_;and_intros <;> intros)
  all_goals (exact gS)
end
section
def eY (l:List aK) (n:Int):Prop:=∃ x ∈ l,x.bE<=n/\n<=x.bz
theorem tk :¬ eY [] n:=fun ⟨_,h,_⟩=>by cases h
theorem nw :eY (x :: l) n ↔ (x.bE<=n/\n<=x.bz)\/eY l n:=by
 constructor
 ·rintro ⟨y,aj,h⟩;rcases hX.1 aj with rfl|aj
  ·exact .inl h
  ·exact .inr ⟨y,aj,h⟩
 ·rintro (h | ⟨y,aj,h⟩)
  ·exact⟨x,fV ..,h⟩
  ·exact⟨y,ha _ aj,h⟩
theorem Ky :eY (l++m) n ↔ eY l n\/eY m n:=by
 induction l with
 | nil=>simp[tk]
 | cons x l bU=>rw[jv,nw,nw,bU,or_assoc]
theorem Kz :eY [x] n ↔ x.bE<=n/\n<=x.bz:=by rw[nw];simp[tk]
theorem ZC (h:∀ x,x ∈ l ↔ x ∈ m):eY l n ↔ eY m n:=
 ⟨fun ⟨x,U,q⟩=>⟨x,(h x).1 U,q⟩,fun ⟨x,U,q⟩=>⟨x,(h x).2 U,q⟩⟩
theorem QT (h:eD a l) (hn:eY l n):a+2<=n:=by
 obtain ⟨x,U,J,aa⟩:=hn;have:=(iC h x U).2;omega
theorem QU (h:eD a l) (U:x ∈ l):eY l x.bE/\eY l x.bz:=by
 have av:=(iC h x U).1;unfold b9 at av;exact⟨⟨x,U,Int.le_refl _,av.2.1⟩,⟨x,U,av.2.1,Int.le_refl _⟩⟩
theorem QV:∀ {l m:List aK} {a b:Int},eD a l->eD b m->(∀ n,eY l n ↔ eY m n)->l=m
 | [],[],_,_,_,_,_=>rfl
 | [],y :: m,_,_,_,h,e=>absurd ((e y.bE).2 (QU h (fV ..)).1) tk
 | x :: l,[],_,_,h,_,e=>absurd ((e x.bE).1 (QU h (fV ..)).1) tk
 | x :: l,y :: m,a,b,ao,hm,e=>by
  have ZD:=ao.1;have ZE:=hm.1;unfold b9 at ZD ZE;have lL:∀ n,eY l n->x.bz+2<=n:=fun n h=>QT ao.2.2 h
  have EP:∀ n,eY m n->y.bz+2<=n:=fun n h=>QT hm.2.2 h
  have key:∀ n,((x.bE<=n/\n<=x.bz)\/eY l n) ↔ ((y.bE<=n/\n<=y.bz)\/eY m n):=fun n=>by rw[<- nw,<- nw];exact e n
  have gb:x.bE=y.bE:=by
   have J:=(key x.bE).1 (.inl (by omega));have aa:=(key y.bE).2 (.inl (by omega));rcases J with J|J
   ·rcases aa with aa|aa
    ·omega
    ·have:=lL _ aa;omega
   ·rcases aa with aa|aa
    ·have:=EP _ J;omega
    ·have:=lL _ aa;have:=EP _ J;omega
  have iI:x.bz=y.bz:=by
   rcases Int.lt_trichotomy x.bz y.bz with h|h|h
   ·exfalso;rcases (key (x.bz+1)).2 (.inl (by omega)) with J|J
    ·omega
    ·have:=lL _ J;omega
   ·exact h
   ·exfalso;rcases (key (y.bz+1)).1 (.inl (by omega)) with J|J
    ·omega
    ·have:=EP _ J;omega
  have GH:x=y:=BI gb iI;subst GH;congr 1;refine QV ao.2.2 hm.2.2 (fun n=>⟨fun h=>?_,fun h=>?_⟩)
  ·rcases (key n).1 (.inr h) with J|J
   ·have:=lL _ h;omega
   ·exact J
  ·rcases (key n).2 (.inr h) with J|J
   ·have:=EP _ h;omega
   ·exact J
def hy:List aK->aK->List aK
 | [],r=>[r]
 | x :: l,r=>if x.bz+1<r.bE then x :: hy l r else if r.bz+1<x.bE then r :: x :: l else hy l ⟨min r.bE x.bE,max r.bz x.bz⟩
theorem EQ:∀ {l:List aK} {r:aK} {n:Int},r.bE<=r.bz->(∀ x ∈ l,x.bE<=x.bz)->(eY (hy l r) n ↔ eY l n\/(r.bE<=n/\n<=r.bz))
 | [],r,n,_,_=>by unfold hy;rw[Kz];simp[tk]
 | x :: l,r,n,hr,U=>by
  have J:=U x (fV ..);have ao:=fun y aj=>U y (ha x aj)
  unfold hy;split
  ·rw[nw,nw,EQ hr ao,or_assoc]
  ·split
   ·rw[nw,or_comm]
   ·rw[EQ (r:=⟨min r.bE x.bE,max r.bz x.bz⟩) (show min r.bE x.bE<=max r.bz x.bz by omega) ao,nw];dsimp only;constructor
    ·rintro (h|h)
     ·exact .inl (.inr h)
     ·by_cases aa:r.bE<=n/\n<=r.bz
      ·exact .inr aa
      ·exact .inl (.inl (by omega))
    ·rintro ((h|h)|h)
     ·exact .inr (by omega)
     ·exact .inl h
     ·exact .inr (by omega)
theorem zb:∀ {l:List aK} {r:aK} {a:Int},eD a l->b9 r->a+2<=r.bE->eD a (hy l r)
 | [],r,a,_,hr,br=>⟨hr,br,trivial⟩
 | x :: l,r,a,h,hr,br=>by
  have U:=h.1;have aa:=h.2.1;unfold hy;split
  ·exact⟨U,aa,zb h.2.2 hr (by omega)⟩
  ·split
   ·exact⟨hr,br,U,by omega,h.2.2⟩
   ·unfold b9 at U hr;exact zb (zf h.2.2 (by omega)) (by unfold b9;dsimp only;omega) b4
theorem wY:∀ (l:List aK) (r:aK),(hy l r).length<=l.length+1
 | [],r=>by simp[hy]
 | x :: l,r=>by
  unfold hy;split
  ·have:=wY l r;simp;omega
  ·split
   ·simp
   ·have:=wY l ⟨min r.bE x.bE,max r.bz x.bz⟩;simp;omega
def rE (c:aK):List aK->List aK
 | []=>[c]
 | r :: m=>if r.bE<=c.bz+1 then rE ⟨c.bE,max c.bz r.bz⟩ m else c :: rE r m
def Bs:List aK->List aK
 | []=>[]
 | x :: m=>rE x m
def nJ:Int->List aK->Prop
 | _,[]=>True
 | a,x :: l=>a<=x.bE/\nJ x.bE l
theorem QW:∀ {l:List aK} {a b:Int},nJ a l->b<=a->nJ b l
 | [],_,_,_,_=>trivial
 | x :: l,a,b,h,hb=>⟨by have:=h.1;omega,h.2⟩
theorem KA:∀ {m:List aK} {c:aK} {n:Int},c.bE<=c.bz->(∀ x ∈ m,x.bE<=x.bz)->nJ c.bE m->(eY (rE c m) n ↔ (c.bE<=n/\n<=c.bz)\/eY m n)
 | [],c,n,_,_,_=>by unfold rE;rw[Kz];simp[tk]
 | r :: m,c,n,hc,hm,aw=>by
  have J:=hm r (fV ..);have ao:=fun y aj=>hm y (ha r aj)
  have aa:=aw.1;unfold rE;split
  ·rw[KA (c:=⟨c.bE,max c.bz r.bz⟩) (show c.bE<=max c.bz r.bz by omega) ao (QW aw.2 aa),nw];dsimp only;constructor
   ·rintro (h|h)
    ·by_cases az:c.bE<=n/\n<=c.bz
     ·exact .inl az
     ·exact .inr (.inl (by omega))
    ·exact .inr (.inr h)
   ·rintro (h|h|h)
    ·exact .inl (by omega)
    ·exact .inl (by omega)
    ·exact .inr h
  ·rw[nw,KA J ao aw.2,nw]
theorem KB:∀ {m:List aK} {c:aK} {a:Int},b9 c->(∀ x ∈ m,b9 x)->nJ c.bE m->a+2<=c.bE->eD a (rE c m)
 | [],c,a,hc,_,_,br=>⟨hc,br,trivial⟩
 | r :: m,c,a,hc,hm,aw,br=>by
  have J:=hm r (fV ..);have ao:=fun y aj=>hm y (ha r aj)
  have aa:=aw.1;unfold rE;split
  ·unfold b9 at hc J;exact KB (by unfold b9;dsimp only;omega) ao (QW aw.2 aa) br
  ·exact⟨hc,br,KB J ao aw.2 (by omega)⟩
theorem ZF (hm:∀ x ∈ m,b9 x) (aw:nJ 0 m):eY (Bs m) n ↔ eY m n:=by
 cases m with
 | nil=>exact Iff.rfl
 | cons x m=>
  unfold Bs;rw[KA (hm x (fV ..)).2.1 (fun y aj=>(hm y (ha _ aj)).2.1) aw.2,nw]
theorem ZG (hm:∀ x ∈ m,b9 x) (aw:nJ 0 m):eD (-2) (Bs m):=by
 cases m with
 | nil=>trivial
 | cons x m=>
  have J:=hm x (fV ..);exact KB J (fun y aj=>hm y (ha _ aj)) aw.2 (by unfold b9 at J;omega)
theorem ZH {R:List aK} (hm:∀ x,x ∈ m ↔ x ∈ l) (ao:∀ x ∈ l,b9 x) (aw:nJ 0 m) (ap:eD (-2) R) (cf:∀ n,eY R n ↔ eY l n):Bs m=R:=by
 have bL:∀ x ∈ m,b9 x:=fun x U=>ao x ((hm x).1 U)
 exact QV (ZG bL aw) ap (fun n=>by rw[ZF bL aw,cf,ZC hm])
def wX (l:List aK) (r:aK):List aK×Int:=if hF l r≠0 then([],hF l r) else(hy l r,0)
end
section
set_option maxRecDepth 100000
attribute [local irreducible] cE a6 bu GStep Fn cg bf cA
structure vW where
 k:Nat
 r:aK
 put:Bool
 out:List aK
structure ZI (l A:List aK) (x:vW):Prop where
 k:x.k<=l.length
 r:b9 x.r
 no:x.put=false->x.out++hy (l.drop x.k) x.r=A/\x.out.length<=x.k
 yes:x.put=true->x.out++l.drop x.k=A/\x.out.length<=x.k+1/\eD x.r.bz (l.drop x.k)
theorem QX:∀ {l:List aK} {a:Int} {k:Nat},eD a l->k<l.length->eD (l.getD k default).bz (l.drop (k+1))
 | [],_,_,_,h=>by simp at h
 | x :: l,a,0,h,_=>h.2.2
 | x :: l,a,k+1,h,ag=>by
  have:=QX (k:=k) h.2.2 (by simpa using ag);simpa using this
theorem G3 (l:List aK) (r:aK) (hw:∀ y,y ∈ l->fB y) (ao:l.length * 16<=140737488355312):Fn Tryz.prog 241 [.ro (l.map aB),.agg (aB r)] (.bN [.ro ((wX l r).1.map aB),I (wX l r).2]):=by
 have J:=HP l r hw ao;unfold wX;by_cases ai:hF l r=0
 ·obtain ⟨aw,hr⟩:=CN ai;rw[ai] at J ⊢;rw[ah (by omega)];generalize dC:hy l r=A;dsimp only;refine aH Tryz.func241 ?_;(refine bH J ?_;and_intros <;> intros);refine cv (fun x:vW=>⟨[(3,.ptr 0 0 0 0),(17,.ro (l.map aB)),(18,I l.length),(19,I x.k),(7,.own 1),(8,ab x.put)],[(0,some (.box 146 (aB x.r))),(1,some (.row 146 2 (x.out.map aB)))],2,Tryz.f241.ntmps⟩)
   (ZI l A) (fun x=>l.length - x.k) (vW.mk 0 r false []) ⟨cm _,hr,fun _=>⟨dC,cm _⟩,fun h=>by cases h⟩ ((iR (n:=1) (t:=7) 146 2 rfl rfl rfl).trans dV) ?_
  rintro ⟨k,r,b,out⟩ ⟨ag,hr,ia,qY⟩;dsimp only at ag hr ia qY ⊢;by_cases au:k<l.length
  ·obtain ⟨U,C9⟩:=iC aw _ (cc au);rw[drop_cons au] at ia qY;have acN:=U;have KC:=hr;have ZJ:eD (l.getD k default).bz (l.drop (k+1)):=QX aw au;unfold b9 at U hr
   cases b
   ·obtain ⟨ia,gb⟩:=ia rfl;clear qY J dC;unfold hy at ia;by_cases b6:(l.getD k default).bz+1<r.bE
    ·rw[al b6] at ia;(repeat' first|refine eP ((out++[l.getD k default]).map aB) ?_|(refine ay ?_;(and_intros <;> intros))|fail)
     all_goals (exact⟨vW.mk (k+1) r false (out++[l.getD k default]),(by(dsimp only;omega)),(by exact⟨au,KC,fun _=>⟨by rw[<- ia];simp,by simp;omega⟩,fun h=>by cases h⟩),ba⟩)
    ·rw[ah b6] at ia;by_cases cU:r.bz+1<(l.getD k default).bE
     ·rw[al cU] at ia;(repeat' first|refine eP ((out++[r]).map aB) ?_|(refine kI (r:=(out++[r]++[l.getD k default]).map aB) ?_ ?_ ?_ ?_ (h:=?_);(exact ER);(exact dm);(exact dp);(exact dq))|(refine k9 (r:=(out++[r]++[l.getD k default]).map aB) ?_ ?_ ?_ ?_ (h:=?_);(exact ER);(exact dm);(exact dp);(exact dq))|(refine la (r:=(out++[r]++[l.getD k default]).map aB) ?_ ?_ ?_ ?_ (h:=?_);(exact ER);(exact dm);(exact dp);(exact dq))|(refine kl (r:=(out++[r]++[l.getD k default]).map aB) ?_ ?_ ?_ ?_ (h:=?_);(exact ER);(exact dm);(exact dp);(exact dq))|(refine ay ?_;(and_intros <;> intros))|fail)
      all_goals (exact⟨vW.mk (k+1) r true (out++[r]++[l.getD k default]),(by(dsimp only;omega)),(by exact⟨au,KC,fun h=>(by cases h),fun _=>⟨by rw[<- ia];simp,by simp;omega,zf ZJ b4⟩⟩),ba⟩)
     ·rw[ah cU] at ia;(try refine ay ?_;and_intros <;> intros)
      all_goals (exact⟨vW.mk (k+1) ⟨min r.bE (l.getD k default).bE,max r.bz (l.getD k default).bz⟩ false out,(by(dsimp only;omega)),(by exact⟨au,by unfold b9;dsimp only;omega,fun _=>⟨ia,by dsimp only;omega⟩,fun h=>by cases h⟩),ba⟩)
   ·obtain ⟨qY,gb,s9⟩:=qY rfl;have hb:=s9.2.1;clear ia J dC;(repeat' first|refine eP ((out++[l.getD k default]).map aB) ?_|(refine ay ?_;(and_intros <;> intros))|fail)
    all_goals (exact⟨vW.mk (k+1) r true (out++[l.getD k default]),(by(dsimp only;omega)),(by exact⟨au,KC,fun h=>(by cases h),fun _=>⟨by rw[<- qY];simp,by simp;omega,zf s9.2.2 b4⟩⟩),ba⟩)
  ·have hd:l.drop k=[]:=List.drop_eq_nil_of_le (by omega);rw[hd] at ia qY
   cases b
   ·obtain ⟨ia,gb⟩:=ia rfl;(repeat' first|(refine kI (r:=A.map aB) ?_ ?_ ?_ ?_ (h:=?_);(exact ES);(exact dm);(exact dp);(exact dq))|(refine k9 (r:=A.map aB) ?_ ?_ ?_ ?_ (h:=?_);(exact ES);(exact dm);(exact dp);(exact dq))|(refine la (r:=A.map aB) ?_ ?_ ?_ ?_ (h:=?_);(exact ES);(exact dm);(exact dp);(exact dq))|(refine kl (r:=A.map aB) ?_ ?_ ?_ ?_ (h:=?_);(exact ES);(exact dm);(exact dp);(exact dq))|(refine ay ?_;(and_intros <;> intros))|fail)
    all_goals (refine bX (hr:=?_);rfl)
   ·obtain ⟨qY,gb,_⟩:=qY rfl;rw[lV] at qY;(try refine ay ?_;and_intros <;> intros)
    all_goals (refine bX (hr:=?_);rw[qY])
 ·rw[al ai];generalize hF l r=e at *;refine aH Tryz.func241 ?_;(refine bH J ?_;and_intros <;> intros)
  all_goals (exact gS)
end
section
open Go.Shelf
def ZK:Go.Shelf.Ren:=⟨fun|6=>295|10=>309|11=>310|12=>311|13=>312|14=>313|24=>324|25=>325|26=>326|27=>327|28=>328|29=>329|30=>330|31=>331|32=>332|33=>333|34=>343|35=>344|36=>345|37=>346|38=>347|39=>354|n=>n,fun|20=>20|26=>108|35=>355|0=>0|37=>357|3=>3|41=>238|44=>362|49=>368|51=>22|4=>4|54=>372|53=>371|58=>376|5=>5|9=>9|60=>385|64=>389|66=>394|67=>395|17=>17|32=>352|33=>353|82=>412|12=>12|75=>405|76=>406|77=>407|78=>408|79=>409|80=>410|n=>n,fun|n=>n⟩
theorem QY:Go.Proofs.LaysGg.n6 Tryz.prog ZK:={
 mixed:=by kernel_rfl,
 f6:=Tryz.func295.trans (congrArg some bR),
 f10:=Tryz.func309.trans (congrArg some bR),
 f11:=Tryz.func310.trans (congrArg some bR),
 f12:=Tryz.func311.trans (congrArg some bR),
 f13:=Tryz.func312.trans (congrArg some bR),
 f14:=Tryz.func313.trans (congrArg some bR),
 f24:=Tryz.func324.trans (congrArg some bR),
 f25:=Tryz.func325.trans (congrArg some bR),
 f26:=Tryz.func326.trans (congrArg some bR),
 f27:=Tryz.func327.trans (congrArg some bR),
 f28:=Tryz.func328.trans (congrArg some bR),
 f29:=Tryz.func329.trans (congrArg some bR),
 f30:=Tryz.func330.trans (congrArg some bR),
 f31:=Tryz.func331.trans (congrArg some bR),
 f32:=Tryz.func332.trans (congrArg some bR),
 f33:=Tryz.func333.trans (congrArg some bR),
 f34:=Tryz.func343.trans (congrArg some bR),
 f35:=Tryz.func344.trans (congrArg some bR),
 f36:=Tryz.func345.trans (congrArg some bR),
 f37:=Tryz.func346.trans (congrArg some bR),
 f38:=Tryz.func347.trans (congrArg some bR),
 f39:=Tryz.func354.trans (congrArg some bR),
 t0:=Tryz.underlying0,
 a0:=Tryz.isAgg0,
 z0:=Tryz.sizeOf0,
 v0:=Tryz.zeroValue0,
 i0:=by kernel_rfl,
 t3:=Tryz.underlying3,
 a3:=Tryz.isAgg3,
 z3:=Tryz.sizeOf3,
 v3:=Tryz.zeroValue3,
 i3:=by kernel_rfl,
 t4:=Tryz.underlying4,
 a4:=Tryz.isAgg4,
 z4:=Tryz.sizeOf4,
 v4:=Tryz.zeroValue4,
 i4:=by kernel_rfl,
 t5:=Tryz.underlying5,
 a5:=Tryz.isAgg5,
 z5:=Tryz.sizeOf5,
 v5:=Tryz.zeroValue5,
 i5:=by kernel_rfl,
 t9:=Tryz.underlying9,
 a9:=Tryz.isAgg9,
 z9:=Tryz.sizeOf9,
 v9:=Tryz.zeroValue9,
 i9:=by kernel_rfl,
 t12:=Tryz.underlying12,
 a12:=Tryz.isAgg12,
 z12:=Tryz.sizeOf12,
 v12:=Tryz.zeroValue12,
 i12:=by kernel_rfl,
 t17:=Tryz.underlying17,
 a17:=Tryz.isAgg17,
 z17:=Tryz.sizeOf17,
 v17:=Tryz.zeroValue17,
 i17:=by kernel_rfl,
 t20:=Tryz.underlying20,
 a20:=Tryz.isAgg20,
 z20:=Tryz.sizeOf20,
 v20:=Tryz.zeroValue20,
 i20:=by kernel_rfl,
 t26:=Tryz.underlying108,
 a26:=Tryz.isAgg108,
 z26:=Tryz.sizeOf108,
 v26:=Tryz.zeroValue108,
 i26:=by kernel_rfl,
 t32:=Tryz.underlying352,
 a32:=Tryz.isAgg352,
 z32:=Tryz.sizeOf352,
 v32:=Tryz.zeroValue352,
 i32:=by kernel_rfl,
 t33:=Tryz.underlying353,
 a33:=Tryz.isAgg353,
 z33:=Tryz.sizeOf353,
 v33:=Tryz.zeroValue353,
 i33:=by kernel_rfl,
 t35:=Tryz.underlying355,
 a35:=Tryz.isAgg355,
 z35:=Tryz.sizeOf355,
 v35:=Tryz.zeroValue355,
 i35:=by kernel_rfl,
 t37:=Tryz.underlying357,
 a37:=Tryz.isAgg357,
 z37:=Tryz.sizeOf357,
 v37:=Tryz.zeroValue357,
 i37:=by kernel_rfl,
 t41:=Tryz.underlying238,
 a41:=Tryz.isAgg238,
 z41:=Tryz.sizeOf238,
 v41:=Tryz.zeroValue238,
 i41:=by kernel_rfl,
 t44:=Tryz.underlying362,
 a44:=Tryz.isAgg362,
 z44:=Tryz.sizeOf362,
 v44:=Tryz.zeroValue362,
 i44:=by kernel_rfl,
 t49:=Tryz.underlying368,
 a49:=Tryz.isAgg368,
 z49:=Tryz.sizeOf368,
 v49:=Tryz.zeroValue368,
 i49:=by kernel_rfl,
 t51:=Tryz.underlying22,
 a51:=Tryz.isAgg22,
 z51:=Tryz.sizeOf22,
 v51:=Tryz.zeroValue22,
 i51:=by kernel_rfl,
 t53:=Tryz.underlying371,
 a53:=Tryz.isAgg371,
 z53:=Tryz.sizeOf371,
 v53:=Tryz.zeroValue371,
 i53:=by kernel_rfl,
 t54:=Tryz.underlying372,
 a54:=Tryz.isAgg372,
 z54:=Tryz.sizeOf372,
 v54:=Tryz.zeroValue372,
 i54:=by kernel_rfl,
 t58:=Tryz.underlying376,
 a58:=Tryz.isAgg376,
 z58:=Tryz.sizeOf376,
 v58:=Tryz.zeroValue376,
 i58:=by kernel_rfl,
 t60:=Tryz.underlying385,
 a60:=Tryz.isAgg385,
 z60:=Tryz.sizeOf385,
 v60:=Tryz.zeroValue385,
 i60:=by kernel_rfl,
 t64:=Tryz.underlying389,
 a64:=Tryz.isAgg389,
 z64:=Tryz.sizeOf389,
 v64:=Tryz.zeroValue389,
 i64:=by kernel_rfl,
 t66:=Tryz.underlying394,
 a66:=Tryz.isAgg394,
 z66:=Tryz.sizeOf394,
 v66:=Tryz.zeroValue394,
 i66:=by kernel_rfl,
 t67:=Tryz.underlying395,
 a67:=Tryz.isAgg395,
 z67:=Tryz.sizeOf395,
 v67:=Tryz.zeroValue395,
 i67:=by kernel_rfl,
 t75:=Tryz.underlying405,
 a75:=Tryz.isAgg405,
 z75:=Tryz.sizeOf405,
 v75:=Tryz.zeroValue405,
 i75:=by kernel_rfl,
 t76:=Tryz.underlying406,
 a76:=Tryz.isAgg406,
 z76:=Tryz.sizeOf406,
 v76:=Tryz.zeroValue406,
 i76:=by kernel_rfl,
 t77:=Tryz.underlying407,
 a77:=Tryz.isAgg407,
 z77:=Tryz.sizeOf407,
 v77:=Tryz.zeroValue407,
 i77:=by kernel_rfl,
 t78:=Tryz.underlying408,
 a78:=Tryz.isAgg408,
 z78:=Tryz.sizeOf408,
 v78:=Tryz.zeroValue408,
 i78:=by kernel_rfl,
 t79:=Tryz.underlying409,
 a79:=Tryz.isAgg409,
 z79:=Tryz.sizeOf409,
 v79:=Tryz.zeroValue409,
 i79:=by kernel_rfl,
 t80:=Tryz.underlying410,
 a80:=Tryz.isAgg410,
 z80:=Tryz.sizeOf410,
 v80:=Tryz.zeroValue410,
 i80:=by kernel_rfl,
 t82:=Tryz.underlying412,
 a82:=Tryz.isAgg412,
 z82:=Tryz.sizeOf412,
 v82:=Tryz.zeroValue412,
 i82:=by kernel_rfl }
end
section
open Go.Shelf Go.RowKit Go.Lib Go.Sort
set_option maxRecDepth 100000
def k1 (r:aK):List Value:=[.int .i64 r.bE,.int .i64 r.bz]
def ul (a b:aK):Bool:=decide (a.bE<b.bE)
theorem ZL:SWO ul where
 irrefl:=fun x=>by simp[ul]
 trans:=fun x y z J aa=>by simp[ul] at *;omega
 ntrans:=fun x y z J aa=>by simp[ul] at *;omega
noncomputable def QZ:TypeInfo:=(Tryz.prog.info? 40).get bR
noncomputable def vX:TypeInfo:=(Tryz.prog.info? 146).get bR
theorem ZM (n:Nat) (aa:2<=n):Lib.swapperK n vX 25=9:=by
 have a:vX.hasPointers=false:=by kernel_rfl
 have b:vX.bytes=16:=by kernel_rfl
 have c:(n == 0)=false:=by simp;omega
 have d:(n == 1)=false:=by simp;omega
 simp[Lib.swapperK,a,b,c,d]
theorem ZN (cJ off c ov size:Nat) (W:World) (G:Nat->Int) (aw:W.cell? ⟨ov,0,none⟩=some (.slice (some ⟨cJ,off,none⟩) size c)) (hc:∀ t,t<size->W.cell? ⟨cJ,off+t * 2,none⟩=some (.int .i64 (G t))) (i j:Nat) (hi:i<size) (ad:j<size) (_hsz:size<4611686018427387904) :
  Calls Tryz.prog 296 #[.int .i64 i,.int .i64 j,.pointer (some ⟨ov,0,none⟩)] W fun e aF=>e = .returned (.bool (decide (G i<G j))) /\ ∃ q,aF = W.drewN q:=by
 have ci:=hc i hi;have acO:=hc j ad
 go_enter Tryz.func296,Tryz.ntmps296
 go_wp2
 go_quiet (fail)
 go_wp2
 go_ret
 exact⟨rfl,nq,rfl⟩
theorem ZO (cJ off c ov:Nat) (d:Array aK) (aa:2<=d.size) (cZ:d.size<4611686018427387904) (w:World) (hH:HoldsK k1 2 w cJ off d) (hB:cJ<w.heap.size) (ET:w.cell? ⟨ov,0,none⟩=some (.slice (some ⟨cJ,off,none⟩) d.size c)) (ZP:ov<w.heap.size) (KD:ov≠cJ) :
  Calls Tryz.prog 295 #[.iface 40 (.slice (some ⟨cJ,off,none⟩) d.size c),.func (.func 296) #[] #[.pointer (some ⟨ov,0,none⟩)]] w fun e aF=>
   e = .returned (.tuple #[]) /\ ∃ iD n os,PermIn 0 d.size d iD /\ SortedIn ul 0 d.size iD /\ aF = grow (putRowK k1 2 (Sort.ahead w n) cJ off iD) os:=by
 have ZQ:LessReadsK Tryz.prog 296 #[.pointer (some ⟨ov,0,none⟩)] k1 2 ul cJ off d.size w:=by
  intro m os Bt aw i j hi ad;have e:sortWorldK k1 2 w cJ off m Bt os=putRowK k1 2 (grow (Sort.ahead w m) os) cJ off Bt:=by
   unfold sortWorldK;rw[putRowK_grow _ _ (Sort.ahead w m) _ cJ off _ hB]
  have ZR:HoldsK k1 2 (grow (Sort.ahead w m) os) cJ off d:=holdsK_grow _ _ _ _ cJ off d hB (holdsK_ahead _ _ _ _ _ _ _ hH);refine ZN cJ off c ov d.size _ (fun t=>Bt[t]!.bE) ?_ (fun t ht=>?_) i j hi ad (by omega)
  ·rw[e,cell?_putRowK_other _ _ _ cJ off Bt _ (by exact KD),cell?_grow _ _ _ (by exact ZP)];exact ET
  ·rw[e];exact((holdsK_putRowK _ _ _ cJ off d Bt ZR aw).cell (i:=t) (c:=0) (by omega) (by omega)).1
 exact Any.sort_Slice_cells_sorted QY 40 146 QZ vX bR bR bR bR 25 (fun _=>by kernel_rfl) k1 2 (fun _=>rfl) bR (fun _=>by kernel_rfl)
  (fun x v ak=>by simp[k1] at ak;rcases ak with rfl|rfl <;> rfl) ul ZL 296 _
  (enters_of Tryz.func296 bR rfl) cJ off c d aa cZ 323 (by rw[ZM _ aa];kernel_rfl) false
  (fun args W=>run_callFunc_extern Tryz.func323 bR bR bR (e:=Extern.ReflectliteSwapper.swap false) bR args W) w ZQ hH hB
theorem Q0:∀ (m:List aK) (a:Int),(∀ x ∈ m,a<=x.bE)->(∀ i j,i<j->j<m.length->(m.getD i default).bE<=(m.getD j default).bE)->nJ a m
 | [],_,_,_=>trivial
 | x :: m,a,J,aa=>⟨J x (fV ..),Q0 m x.bE (fun y aj=>by
   obtain ⟨i,hi,rfl⟩:=List.getElem_of_mem aj;have:=aa 0 (i+1) (by omega) (by simp;omega);simpa[bZ,hi] using this) (fun i j hi ad=>by
   have:=aa (i+1) (j+1) (by omega) (by simp;omega)
   simpa using this)⟩
theorem Q1 (l:List aK) (i:Nat):l.toArray[i]! = l.getD i default:=by
 simp[Array.getElem!_eq_getD,bZ]
theorem Q2 (x:aK):(k1 x).length=2:=rfl
def KE (cQ:Array Value) (l:List aK):Prop:=∀ i j,i<l.length->j<2->cQ[i * 2+j]? = some ((k1 (l.getD i default)).getD j undef)
theorem ZS (w:World) (n g:Nat) (f:Array Value->Array Value) (os:Array Obj):w.grownBy (grow (mapBlock (Sort.ahead w n) g f) os) (some g):=
 ⟨rfl,rfl,rfl,by simp[mapBlock,Sort.ahead],fun k ag ct=>by
  rw[heap_grow_old _ _ (by simpa[mapBlock,Sort.ahead] using ag)];simp only[mapBlock,Sort.ahead,Array.getElem?_modify]
  rw[ah (fun e=>ct (by rw[e]))]⟩
theorem ZT (l:List aK) (ar:∀ x ∈ l,0<=x.bE) (aa:2<=l.length) (ao:l.length<4611686018427387904) (w:World) (g cap ov:Nat) (cQ:Array Value) (av:w.heap[g]? = some (.cells cQ 146 (0,0))) (hc:KE cQ l) (ET:w.cell? ⟨ov,0,none⟩=some (.slice (some ⟨g,0,none⟩) l.length cap)) (ct:ov≠g) :
  Calls Tryz.prog 295 #[.iface 40 (.slice (some ⟨g,0,none⟩) l.length cap),.func (.func 296) #[] #[.pointer (some ⟨ov,0,none⟩)]] w fun e aF=>
   e = .returned (.tuple #[]) /\ ∃ m xW,(∀ x,x ∈ m ↔ x ∈ l)/\m.length=l.length/\nJ 0 m/\w.grownBy aF (some g)/\aF.heap[g]? = some (.cells xW 146 (0,0))/\xW.size=cQ.size/\KE xW m:=by
 have bW:=(gB.1 av).1;have hH:HoldsK k1 2 w g 0 l.toArray:=fun j ad=>by
  rw[size_flatK] at ad;have o1:j<l.length * 2:=by simpa using ad
  rw[get_flatK _ _ _ _ ad];refine ⟨?_,?_⟩
  ·have h:=hc (j / 2) (j % 2) (by omega) (by omega);rw[show j / 2 * 2+j % 2=j by omega] at h;simp only[World.cell?,av,fy,id_eq];rw[Q1];have az:j % 2<(k1 (l.getD (j / 2) default)).length:=by rw[Q2];omega
   rw[bZ,eB az,tn] at h;rw[getElem!_pos (k1 (l.getD (j / 2) default)) (j % 2) az];simpa using h
  ·simp[World.frozen?,av]
 have cZ:l.toArray.size=l.length:=by simp
 have h:=ZO g 0 cap ov l.toArray (by rw[cZ];exact aa) (by rw[cZ];exact ao) w hH bW (by rw[cZ];exact ET) (World.block_lt_of_cell? w _ ET) ct;rw[cZ] at h;refine h.mono ?_;rintro e aF ⟨rfl,iD,n,os,ZU,ZV,rfl⟩;obtain ⟨dg,db,gq⟩:=ZU;have qP:iD.size=l.length:=by rw[dg,cZ]
 have Q3:iD.toList.Perm l:=by
  have aI:iD.extract 0 l.length=iD:=by rw[<- qP];simp
  have a7:l.toArray.extract 0 l.length=l.toArray:=by rw[<- cZ];simp
  rw[aI,a7] at gq;simpa using gq
 have my:∀ i,iD[i]! = iD.toList.getD i default:=fun i=>by
  have:=Q1 iD.toList i;simpa using this
 refine ⟨rfl,iD.toList,putCells id 0 (flatK k1 2 iD) cQ,fun x=>Q3.mem_iff,by simpa using qP,?_,ZS w n g _ os,?_,by simp[putCells],fun i j hi ad=>?_⟩
 ·refine Q0 _ 0 (fun x U=>ar x (Q3.mem_iff.1 U)) (fun i j hi ad=>?_);have:=ZV i j (cm _) hi (by simpa[qP] using ad);rw[my,my] at this;simp only[ul,decide_eq_false_iff_not] at this;omega
 ·rw[heap_grow_old _ _ (by simpa[putRowK,putRow,mapBlock,Sort.ahead] using bW)];simp only[putRowK,putRow,mapBlock,Sort.ahead,Array.getElem?_modify,if_true,av,Option.map_some,onCells]
 ·have oC:i<iD.size:=by simpa using hi
  have hlen:i * 2+j<iD.size * 2:=by omega
  have HA:i * 2+j<cQ.size:=by
   have:=hc i j (by omega) ad;exact(gB.1 this).1
  unfold putCells;rw[Array.getElem?_mapIdx,l2 HA,Option.map_some,al ⟨cm _,by rw[size_flatK,fy];exact hlen⟩,Nat.sub_zero,get_flatK _ _ _ _ hlen];rw[show(i * 2+j) / 2=i by omega,show(i * 2+j) % 2=j by omega,my];have az:j<(k1 (iD.toList.getD i default)).length:=by rw[Q2];exact ad
  rw[getElem!_pos (k1 (iD.toList.getD i default)) j az,bZ (l:=k1 _),eB az];rfl
theorem ZW (l:List aK) (ar:∀ x ∈ l,0<=x.bE) (J:l.length<=1) (p:Option Addr) (cap:Nat) (KF:Go.Fn) (KG KH:Array Value) (w:World) :
  Calls Tryz.prog 295 #[.iface 40 (.slice p l.length cap),.func KF KG KH] w fun e aF=>e = .returned (.tuple #[])/\nJ 0 l /\ ∃ os,aF = grow w os:=by
 have l6:Lib.swapperK l.length vX 25=l.length+1:=by
  rcases Nat.eq_zero_or_pos l.length with h|h
  ·rw[h];simp[Lib.swapperK]
  ·rw[show l.length=1 by omega];simp[Lib.swapperK]
 have aw:nJ 0 l:=by
  match l,J with
  | [],_=>trivial
  | [x],_=>exact⟨ar x (fV ..),trivial⟩
 have key : ∀ f, Tryz.prog.funcs.findIdx? (·.name == "internal/reflectlite" ++ ".Swapper$" ++ toString (Lib.swapperK l.length vX 25)) = some f -> Calls Tryz.prog 295 #[.iface 40 (.slice p l.length cap), .func KF KG KH] w fun e aF => e = .returned (.tuple #[]) /\ nJ 0 l /\ ∃ os, aF = grow w os := fun f hf => by
  have:=Any.sort_Slice_tiny QY 40 146 QZ vX bR bR bR bR 25 (fun _=>by kernel_rfl) p l.length cap J f hf KF KG KH w;exact Calls.mono this (fun e aF h=>⟨h.1,aw,h.2⟩)
 rcases Nat.eq_zero_or_pos l.length with h|h
 ·refine key 315 ?_;rw[l6,h];kernel_rfl
 ·have c6:l.length=1:=by omega
  refine key 316 ?_;rw[l6,c6];kernel_rfl
theorem EU (x:aK) (j:Nat) (ad:j<2):bw (aB x) j = .lit ((k1 x).getD j undef)/\((k1 x).getD j undef).oneCell' = true:=by
 match j,ad with
 | 0,_=>exact⟨rfl,rfl⟩
 | 1,_=>exact⟨rfl,rfl⟩
theorem EV (l:List aK) (i:Nat) (hi:i<l.length):bb (l.map aB) i=aB (l.getD i default):=by
 unfold bb;rw[bZ,bZ,qn,eB hi];rfl
theorem Q4 {a:Act} {n:Nat} (aw:a.tmps.size=n) (ht:t<n):(a.put (some t) u).tmps.getD t undef=u:=by
 simp[Act.put,aw,ht]
theorem ZX {a:Act} {s:Nat} (ct:s≠t):(a.put (some s) u).tmps.getD t undef=a.tmps.getD t undef:=by
 simp[Act.put,Array.getElem?_setIfInBounds,ct]
theorem ZY (l:List aK) (ar:∀ x ∈ l,0<=x.bE) (ao:l.length<4611686018427387904) {n0:Nat} {ops rest:List Oper} {EW EX vY:Oper} {env:List (Nat×V)} {heap:List (Nat×Option aT)} {next af:Nat} {Q:aW->Prop} {x y:Operand} {r bx nK pd eJ:Nat} {ts:Array TypeId} (ZZ:EW.op = .makeInterface 40 x:=by rfl) (U:aJ env x=some (.own r):=by rfl) (hh:aM heap r=some (.row 146 2 (l.map aB)):=by rfl) (sm:b1 env ops EW.guard=some true:=by rfl) (Z0:EW.dst=some nK:=by rfl) (Q5:Nat.blt nK af=true:=by rfl) (Z1:EX.op = .makeFunc (.func 296) #[] #[y]:=by rfl) (aj:aJ ((nK,.any) :: env) y=some (.ptr bx 0 0 0):=by rfl) (EY:aM heap bx=some (.box eJ [.own r]):=by rfl) (Z2:b1 ((nK,.any) :: env) ops EX.guard=some true:=by rfl) (Z3:EX.dst=some pd:=by rfl) (Q6:Nat.blt pd af=true:=by rfl) (ct:Nat.beq pd nK=false:=by rfl) (pb:vY.op = .call { callee:=.value (.func 295),args:=#[.tmp nK,.tmp pd],argTypes:=ts }:=by rfl) (Z4:b1 ((pd,.any) :: (nK,.any) :: env) ops vY.guard=some true:=by rfl) (Z5:mX af vY.dst=true:=by rfl) (h:∀ m,(∀ x,x ∈ m ↔ x ∈ l)->m.length=l.length->nJ 0 m->a6 Tryz.prog n0 ops.toArray rest ((⟨(pd,.any) :: (nK,.any) :: env,(r,some (.row 146 2 (m.map aB))) :: heap,next,af⟩:aW).put vY.dst (.bN [])) Q) :
  a6 Tryz.prog n0 ops.toArray (EW :: EX :: vY :: rest) ⟨env,heap,next,af⟩ Q:=fun F base w0 ρ a w hH ax=>by
 have ak:=j8 (df ax U);obtain ⟨pC,v,xs,aI,⟨a7,qo⟩,cC,eI⟩:=hH.cJ _ _ hh;rw[ak] at aI;injection aI with aI;have bk:∀ i j,i<l.length->j<2->xs[i * 2+j]? = some ((k1 (l.getD i default)).getD j undef):=fun i j hi ad=>by
  obtain ⟨u,hu,rF,_⟩:=eI i j (by simpa using hi) ad;rw[EV l i hi,(EU _ j ad).1] at rF;rw[hu]
  cases rF with
  | lit v h=>rfl
 obtain ⟨b,us,f1,f2,f3,f4,f5⟩:=hH.cJ _ _ EY;have Z6:us.getD 0 undef=v:=by
  have:=j8 (f5 0 (by simp)).1;rw[ak] at this;injection this with this;rw[<- this,aI]
 have mu:us[0]? = some v:=by
  rw[<- Z6,gg];have:0<us.size:=by rw[f4];simp
  simp[this]
 have Q7:w.cell? ⟨b,0,none⟩=some v:=by simp[World.cell?,f3,mu]
 refine wpList_step fun K l6=>?_
 rw[al (qz ax sm)];refine l5 (u:=.iface 40 v) (aF:=w) ?_ ?_
 ·unfold execOp;rw[ZZ];simp only[aI];rfl
 rw[Z0];refine l6 _ _ ?_;have EZ:=ax.put (bM Q5) (v:=.any) (u:=.iface 40 v) (.any _);clear l6 K;refine wpList_step fun K l6=>?_
 rw[al (qz EZ Z2)];obtain ⟨gm,fD,g1,g2,g3⟩:=pR (df EZ aj);rw[f1] at g1;injection g1 with g1;subst g1;simp only[dU,ck] at g2;subst g2;refine l5 (u:=.func (.func 296) #[] #[.pointer (some ⟨b,0,none⟩)]) (aF:=w) ?_ ?_
 ·unfold execOp;rw[Z1];simp[Instr.makeFunc,Sem.run_bind,Sem.run_pure,g3]
 rw[Z3];refine l6 _ _ ?_;have ua:=EZ.put (bM Q6) (v:=.any) (u:=.func (.func 296) #[] #[.pointer (some ⟨b,0,none⟩)]) (.any _);have t1:((a.put (some nK) (.iface 40 v)).put (some pd) (.func (.func 296) #[] #[.pointer (some ⟨b,0,none⟩)])).tmps.getD nK undef = .iface 40 v:=by
  rw[ZX (fun e=>by rw[e] at ct;simp at ct),Q4 ax.size (bM Q5)]
 have t2:((a.put (some nK) (.iface 40 v)).put (some pd) (.func (.func 296) #[] #[.pointer (some ⟨b,0,none⟩)])).tmps.getD pd undef=(.func (.func 296) #[] #[.pointer (some ⟨b,0,none⟩)]):=
  Q4 EZ.size (bM Q6)
 clear l6 K;generalize (a.put (some nK) (.iface 40 v)).put (some pd) (.func (.func 296) #[] #[.pointer (some ⟨b,0,none⟩)])=a2 at t1 t2 ua ⊢;refine wpList_step fun K l6=>?_
 rw[al (qz ua Z4)];unfold Oper.wp;rw[IJ pb bR a2 w,Oper.upon_enter];have iT:(#[Operand.tmp nK,Operand.tmp pd].map a2.eval) = #[.iface 40 v,.func (.func 296) #[] #[.pointer (some ⟨b,0,none⟩)]]:=by
  simp only[List.map_toArray,iM,sZ,Act.eval,t1,t2]
 rw[iT];have done:∀ (m:List aK) (aF:World) (row:Option Nat),(∀ x,x ∈ m ↔ x ∈ l)->m.length=l.length->nJ 0 m->w.grownBy aF row->(∀ k,row=some k->v.ownBlock=some k) ->
   (∃ E0,aF.ownsRow 0 146 2 v m.length E0 /\ ∀ i j,i<m.length->j<2->E0[i * 2+j]? = some ((k1 (m.getD i default)).getD j undef))->K (a2.put vY.dst (.tuple #[])) aF:=fun m aF row hm xu jO av xw ⟨E0,yh,C9⟩=>by
  refine l6 _ _ ?_;have yK:∀ k,v.ownBlock=some k->dU v=some k:=fun k ag=>by
   rcases a7.2 with⟨rfl,_⟩ | ⟨g,cap,cQ,rfl,_⟩
   ·cases ag
   ·exact ag
  have l3:∀ k,row=some k -> ¬ bs F ρ heap k:=fun k ag aw=>aw.2 r _ _ hh rfl ak (by rw[aI];exact yK k (xw k ag))
  obtain ⟨aL,aS,bi⟩:=hH.step (bl:=ρ) (cB:=(r,some (.row 146 2 (m.map aB))) :: heap) (next':=next) r row av
   (fun k ag=>⟨qo k (yK k (xw k ag)),l3 k ag⟩) (fun _ _ h=>h) (fun id u h=>hH.sup id u h)
   (fun i B ct an=>by
    rw[cl,ah (Ne.symm ct)] at an;refine ⟨an,?_⟩;obtain ⟨u,hu⟩:=hH.nd an
    exact⟨u,hu,fun ae fD hb e=>ct (hH.inj i r B _ u _ fD an hh ae rfl hu ak hb (by rw[aI];exact yK fD (xw fD e)))⟩)
   (fun B u fD an ae hu hb=>by
    rw[ak] at hu;injection hu with hu;subst hu;refine .inr ⟨fun aw=>aw.2 r _ _ hh rfl ak hb,fun i bd dD ct b0 dK c2 cG=>?_⟩;rw[cl,ah (Ne.symm ct)] at b0
    exact ct (hH.inj i r bd _ dD _ fD b0 hh dK rfl c2 ak cG hb))
   (fun B an hS dc=>by
    rw[cl,al rfl] at an;injection an with an;subst an;refine ⟨by omega,v,E0,by rw[ak,aI],⟨by rw[bY];exact yh,qo⟩,fun i hi=>?_,fun i j hi ad=>?_⟩
    ·rw[bY] at hi;rw[EV m i hi];rfl
    ·rw[bY] at hi;refine ⟨_,C9 i j hi ad,?_,(EU _ j ad).2⟩;rw[EV m i hi,(EU _ j ad).1]
     exact .lit _ (EU _ j ad).2)
  obtain ⟨dg,db⟩:=DO ⟨(pd,.any) :: (nK,.any) :: env,(r,some (.row 146 2 (m.map aB))) :: heap,next,af⟩ vY.dst (.bN []);have Z7:=ua.mono aS bi (fun _ _ h=>h);exact h m hm xu jO F base w0 ρ _ aF (by rw[dg,db];exact aL) (by rw[dg];exact e0.zS (st:=⟨(pd,.any) :: (nK,.any) :: env,(r,some (.row 146 2 (m.map aB))) :: heap,next,af⟩) Z7 Z5 (.bN rfl (fun j ad=>by simp at ad)))
 by_cases aa:2<=l.length
 ·rcases a7.2 with⟨_,ai⟩ | ⟨g,cap,cQ,l1,oG,av,nv,qp,hN,pD⟩
  ·rw[bY] at ai;omega
  ·rw[bY] at l1 nv pD;have Z8:KE cQ l:=fun i j hi ad=>by
    have:=bk i j hi ad;rw[<- pD,n7,al (by omega),tr] at this;exact this
   have tO:b≠g:=fun e=>by
    have dG:=hH.inj bx r _ _ _ _ b EY hh rfl rfl f1 ak rfl (by rw[aI,l1,e];rfl);rw[dG,hh] at EY
    cases EY
   rw[l1] at Q7 ⊢;refine (ZT l ar aa ao w g cap b cQ av Z8 Q7 tO).mono ?_;rintro e aF ⟨rfl,m,xW,hm,xu,jO,oH,oq,cZ,Z9⟩;refine done m aF (some g) hm xu jO oH (fun k ag=>by injection ag with ag;subst ag;rw[l1];rfl) ⟨xW.toList.take (m.length * 2),⟨by rw[kO];simp;omega,.inr ⟨g,cap,xW,by rw[l1,xu],oG,oq,by omega,qp,by omega,rfl⟩⟩,fun i j hi ad=>?_⟩;rw[n7,al (by omega),tr];exact Z9 i j (by omega) ad
 ·have l1:∃ p cap,v = .slice p l.length cap:=by
   rcases a7.2 with⟨ai,J⟩ | ⟨g,cap,cQ,l1,_⟩
   ·rw[bY] at J;exact⟨none,0,by rw[ai,J]⟩
   ·rw[bY] at l1;exact⟨_,_,l1⟩
  obtain ⟨p,cap,l1⟩:=l1;have Q8:=ZW l ar (by omega) p cap (.func 296) #[] #[.pointer (some ⟨b,0,none⟩)] w;rw[<- l1] at Q8;refine Q8.mono ?_;rintro e aF ⟨rfl,jO,os,rfl⟩;have oH:w.grownBy (grow w os) none:=⟨rfl,rfl,rfl,by simp,fun k ag _=>heap_grow_old w os ag⟩;refine done l _ none (fun x=>Iff.rfl) rfl jO oH (fun k ag=>by cases ag) ⟨xs,?_,bk⟩
  have:=a7.kept oH (by
   cases oE:v.ownBlock with
   | none=>exact .inl rfl
   | some k=>exact .inr (by simp))
  rwa [bY] at this
end
section
set_option maxRecDepth 100000
attribute [local irreducible] cE a6 bu GStep Fn cg bf cA
def pe (out:List aK) (r:aK):List aK:=
 if out.length=0 then[r] else if r.bE<=(out.getD (out.length - 1) default).bz+1 then out.set (out.length - 1) ⟨(out.getD (out.length - 1) default).bE,max (out.getD (out.length - 1) default).bz r.bz⟩ else out++[r]
def ls (m:List aK):List aK:=m.foldl pe []
theorem aaa (d:List aK) (c r:aK):pe (d++[c]) r=if r.bE<=c.bz+1 then d++[⟨c.bE,max c.bz r.bz⟩] else d++[c]++[r]:=by
 have J:(d++[c]).getD ((d++[c]).length - 1) default=c:=by simp[bZ]
 unfold pe;rw[ah (by simp),J];split
 ·congr 1;simp[List.set_append]
 ·rfl
theorem KI:∀ (m d:List aK) (c:aK),m.foldl pe (d++[c])=d++rE c m
 | [],d,c=>rfl
 | r :: m,d,c=>by
  rw[List.foldl_cons,aaa];unfold rE;split
  ·exact KI m d _
  ·rw[KI m (d++[c]) r,lS];rfl
theorem aab (m:List aK):ls m=Bs m:=by
 cases m with
 | nil=>rfl
 | cons x m=>
  have:=KI m [] x;exact this
theorem aac (h:k<m.length):ls (m.take (k+1))=pe (ls (m.take k)) (m.getD k default):=by
 unfold ls;rw[mN h,List.foldl_append];rfl
theorem aad {out:List aK} (ae:∀ x ∈ out,b9 x) (hr:b9 r):∀ x ∈ pe out r,b9 x:=by
 intro x U;unfold pe at U;split at U
 ·rw[iX] at U;subst U;exact hr
 ·split at U
  ·have J:(out.getD (out.length - 1) default) ∈ out:=cc (by omega);rcases vo U with h|h
   ·exact ae x h
   ·have:=ae _ J;subst h;unfold b9 at this hr ⊢;dsimp only;omega
  ·rcases gr.1 U with h|h
   ·exact ae x h
   ·rw[iX] at h;subst h;exact hr
theorem aae (out:List aK) (r:aK):(pe out r).length<=out.length+1:=by
 unfold pe;split
 ·simp
 ·split <;> simp
theorem Q9:∀ {m out:List aK},(∀ x ∈ out,b9 x)->(∀ x ∈ m,b9 x) -> ∀ x ∈ m.foldl pe out,b9 x
 | [],out,ae,_=>ae
 | r :: m,out,ae,hm=>Q9 (m:=m) (aad ae (hm r (fV ..))) (fun x U=>hm x (ha _ U))
theorem Ra:∀ (m out:List aK),(m.foldl pe out).length<=out.length+m.length
 | [],out=>by simp
 | r :: m,out=>by
  have J:=Ra m (pe out r);have aa:=aae out r;rw[List.foldl_cons,eb];omega
theorem aaf (hm:∀ x ∈ m,b9 x):∀ x ∈ ls m,b9 x:=Q9 (fun x U=>by cases U) hm
theorem aag (m:List aK):(ls m).length<=m.length:=by
 have:=Ra m [];simpa[ls] using this
theorem Rb (out:List aK) (i:Nat) (hi:i<out.length) (v:Int):(out.map aB).set i (setAt 1 [I v] (bb (out.map aB) i))=(out.set i ⟨(out.getD i default).bE,v⟩).map aB:=by
 rw[EV _ _ hi,q3];rfl
theorem Qt (l R:List aK) (av:∀ x ∈ l,b9 x) (ao:l.length * 16<=140737488355328) (ap:eD (-2) R) (cf:∀ n,eY R n ↔ eY l n):Fn Tryz.prog 257 [.ro (l.map aB)] (.ro (R.map aB)):=by
 have ar:∀ x ∈ l,0<=x.bE:=fun x U=>(av x U).1
 refine aH Tryz.func257 ?_;(repeat' first|refine eP (l.map aB) ?_|(refine ay ?_;(and_intros <;> intros))|fail);refine ZY l ar (by omega) (h:=?_);intro m hm xu aw;have aah:ls m=R:=by rw[aab];exact ZH hm av aw ap cf
 have Rc:∀ x ∈ m,b9 x:=fun x U=>av x ((hm x).1 U)
 clear hm aw ap cf ar av;(try refine ay ?_;and_intros <;> intros);refine cv (fun k:Nat=>⟨[(14,.own 2),(15,I m.length),(16,I k),(3,.own 3)],[(2,some (.row 146 2 (m.map aB))),(3,some (.row 146 2 ((ls (m.take k)).map aB)))],4,Tryz.f257.ntmps⟩)
  (fun k=>k<=m.length) (fun k=>m.length - k) 0 (cm _) ((iR (n:=3) (t:=3) 146 2 rfl rfl rfl).trans dV) ?_
 intro k ag;by_cases au:k<m.length
 ·have U:=Rc _ (cc au);have Re:=aaf (m:=m.take k) (fun x U=>Rc x (List.mem_of_mem_take U));have gb:=aag (m.take k);rw[kO] at gb;have l4:=aac au;generalize ls (m.take k)=out at Re gb l4 ⊢;unfold pe at l4;unfold b9 at U;by_cases dz:out.length=0
  ·rw[al dz] at l4;obtain rfl:=List.length_eq_zero_iff.1 dz;(repeat' first|(refine kI (r:=(ls (m.take (k+1))).map aB) ?_ ?_ ?_ ?_ (h:=?_);(exact E1);(exact dm);(exact dp);(exact dq))|(refine k9 (r:=(ls (m.take (k+1))).map aB) ?_ ?_ ?_ ?_ (h:=?_);(exact E1);(exact dm);(exact dp);(exact dq))|(refine la (r:=(ls (m.take (k+1))).map aB) ?_ ?_ ?_ ?_ (h:=?_);(exact E1);(exact dm);(exact dp);(exact dq))|(refine kl (r:=(ls (m.take (k+1))).map aB) ?_ ?_ ?_ ?_ (h:=?_);(exact E1);(exact dm);(exact dp);(exact dq))|(refine ay ?_;(and_intros <;> intros))|fail)
   all_goals (exact⟨k+1,(by omega),au,ba⟩)
  ·rw[ah dz] at l4;have hc:=Re _ (cc (show out.length - 1<out.length by omega));unfold b9 at hc;by_cases b6:(m.getD k default).bE<=(out.getD (out.length - 1) default).bz+1
   ·rw[al b6] at l4;(repeat' first|(refine lT (r:=(ls (m.take (k+1))).map aB) ?_ ?_ (h:=?_);(exact gX);(focus ((rw[l4];exact Rb out (out.length - 1) (by omega) _))))|(refine lU (r:=(ls (m.take (k+1))).map aB) ?_ ?_ (h:=?_);(exact gX);(focus ((rw[l4];exact Rb out (out.length - 1) (by omega) _))))|(refine ay ?_;(and_intros <;> intros))|fail)
    all_goals (exact⟨k+1,(by omega),au,ba⟩)
   ·rw[ah b6] at l4;(repeat' first|(refine kI (r:=(ls (m.take (k+1))).map aB) ?_ ?_ ?_ ?_ (h:=?_);(exact E2);(exact dm);(exact dp);(exact dq))|(refine k9 (r:=(ls (m.take (k+1))).map aB) ?_ ?_ ?_ ?_ (h:=?_);(exact E2);(exact dm);(exact dp);(exact dq))|(refine la (r:=(ls (m.take (k+1))).map aB) ?_ ?_ ?_ ?_ (h:=?_);(exact E2);(exact dm);(exact dp);(exact dq))|(refine kl (r:=(ls (m.take (k+1))).map aB) ?_ ?_ ?_ ?_ (h:=?_);(exact E2);(exact dm);(exact dp);(exact dq))|(refine ay ?_;(and_intros <;> intros))|fail)
    all_goals (exact⟨k+1,(by omega),au,ba⟩)
 ·(try refine ay ?_;and_intros <;> intros)
  all_goals (refine bX (hr:=?_);rw[j9 (by omega),aah])
end
section
set_option maxRecDepth 100000
attribute [local irreducible] cE a6 bu GStep Fn cg bf
theorem Uc (l:List aK) (r:aK) (hw:∀ y,y ∈ l->fB y) (ao:l.length * 16<=140737488355312):Fn Tryz.prog 256 [.ro (l.map aB),.agg (aB r)] (I (hF l r)):=by
 have J:=Dc l hw ao;unfold hF;generalize gi l=e at *;refine aH Tryz.func256 ?_;(repeat' first|refine bh J ?_|(refine h4 (x6 _) (ht:=?_) (hff:=?_) <;> intro _ <;> try (exfalso;omega))|(refine h5 (x6 _) (ht:=?_) (hff:=?_) <;> intro _ <;> try (exfalso;omega))|(refine ay ?_;(and_intros <;> intros))|fail)
 all_goals (refine bX (hr:=?_))
 all_goals first
  | rw[al cu]
  | rw[ah cu,al cu]
  | rw[ah cu,ah cu]
end
section
set_option maxRecDepth 100000
attribute [local irreducible] cE a6 bu GStep Fn cg bf cA
theorem aai (aw:eD (-2) l) (hr:b9 r):∀ x ∈ l++[r],b9 x:=fun x U=>by
 rcases gr.1 U with h|h
 ·exact(iC aw x h).1
 ·rw[iX] at h;subst h;exact hr
theorem M7 (l:List aK) (r:aK) (aw:eD (-2) l) (hr:b9 r) (ao:l.length * 16<=140737488351232):Fn Tryz.prog 257 [.ro ((l++[r]).map aB)] (.ro ((hy l r).map aB)):=
 Qt (l++[r]) (hy l r) (aai aw hr) (by rw[eE,eb,fg];omega) (zb aw hr (by unfold b9 at hr;omega))
  (fun n=>by
   unfold b9 at hr
   rw[EQ hr.2.1 (fun x U=>by have:=(iC aw x U).1;unfold b9 at this;exact this.2.1),Ky,Kz])
def Dt (s:ee) (off n:Int) (fin:Bool):ee:=
 { s with cO:=if 0<n then gh s.cO ⟨off,off+n - 1⟩ else s.cO,cI:=if 0<n then hy s.cI ⟨off,off+n - 1⟩ else s.cI,fo:=s.fo && !fin,Over:=s.Over || fin }
noncomputable def lF (s:ee) (off n:Int) (fin:Bool):ee×Int:=if kd s off n fin≠0 then(vu,kd s off n fin) else(Dt s off n fin,0)
def EA (s:ee) (off n:Int) (fin:Bool):ee:=
 { s with cO:=if 0<n then(jb s.cI ⟨off,off+n - 1⟩ s.cI.length).foldl hy s.cO else s.cO,fo:=s.fo && !fin }
noncomputable def mj (s:ee) (off n:Int) (fin:Bool):ee×Int:=if kd s off n fin≠0 then(vu,kd s off n fin) else(EA s off n fin,0)
def pv (r:ee×Int):V:=.bN [.agg (fc r.1),I r.2]
theorem Qs (aw:eD (-2) l) (hr:b9 r):wX l r=(hy l r,0):=by
 have h:hF l r=0:=by unfold hF gi;rw[al aw,ah (by omega),al hr]
 unfold wX;rw[h,ah (by omega)]
theorem YL (aw:eD (-2) l) (hr:b9 r):Bq l r=(jb l r l.length,0):=by
 have h:hF l r=0:=by unfold hF gi;rw[al aw,ah (by omega),al hr]
 unfold Bq;rw[h,ah (by omega)]
theorem vn:∀ (H:List aK) {L:List aK},eD (-2) L->(∀ x ∈ H,b9 x)->eD (-2) (H.foldl hy L)/\(∀ n,eY (H.foldl hy L) n ↔ eY (L++H) n)/\(H.foldl hy L).length<=L.length+H.length
 | [],L,cw,_=>⟨cw,fun n=>by rw[lV];rfl,by simp⟩
 | x :: H,L,cw,hH=>by
  have U:=hH x (fV ..);have qM:=U;unfold b9 at qM;obtain ⟨J,aa,az⟩:=vn H (zb cw U (by omega)) (fun y aj=>hH y (ha _ aj));have bk:=wY L x;rw[List.foldl_cons];refine ⟨J,fun n=>?_,by rw[eb];omega⟩;rw[aa,Ky,EQ qM.2.1 (fun y aj=>by have:=(iC cw y aj).1;unfold b9 at this;exact this.2.1),Ky,nw,or_assoc]
theorem YM {H L:List aK} (h:k<H.length):(H.take (k+1)).foldl hy L=hy ((H.take k).foldl hy L) (H.getD k default):=by
 rw[mN h,List.foldl_append];rfl
theorem xt {s:ee} (h:mM s) {off:Int} {fin:Bool} (ar:qU s off n fin):eD (-2) s.cO/\eD (-2) s.cI/\(0<=off/\0<=n/\off+n<=600)/\(0<n->b9 ⟨off,off+n - 1⟩):=by
 have hh:=(xp s).1 h.1.1.1;obtain ⟨⟨f1,f2,f3,f4,f5,f6,f7⟩,_,_⟩:=hh;obtain ⟨⟨dg,db,gq,ka⟩,_⟩:=ar;exact⟨qF f6,qF f7,by omega,fun hn=>by unfold b9;dsimp only;omega⟩
theorem VK (s:ee) (off n:Int) (fin:Bool) (hw:hg s) (ae:aE off) (hn:aE n):Fn Tryz.prog 244 [.agg (fc s),I off,I n,ab fin] (pv (lF s off n fin)):=by
 have J:=Qr s off n fin hw ae hn;have aa:=Ox s hw;have az:=fun r=>NR s.cO r hw.2.2.2.2.1 (by have:=hw.2.2.2.1;omega)
 have bk:=fun r=>G3 s.cI r hw.2.2.2.2.2.2 (by have:=hw.2.2.2.2.2.1;omega)
 clear hw;unfold aE at ae hn;unfold lF pv;by_cases fz:kd s off n fin=0
 ·obtain ⟨bP,ar⟩:mM s/\qU s off n fin:=by
   rcases xP s off n fin with⟨ai,e⟩ | ⟨_,h,c6,_⟩ | ⟨ai,bP,ar,e⟩
   ·omega
   ·exact⟨h,c6⟩
   ·omega
  rw[fz,al rfl] at J;rw[fz,ah (by decide)];obtain ⟨aL,aS,bi,cq⟩:=xt bP ar;clear fz bP ar;unfold Dt;by_cases hn0:0<n
  ·rw[al hn0,al hn0];have cq:=cq hn0;have az:=az ⟨off,off+n - 1⟩;have bk:=bk ⟨off,off+n - 1⟩;rw[QQ aL cq] at az;rw[Qs aS cq] at bk;obtain ⟨data,f0,next,jy,lost,dO,hT,b8⟩:=s;dsimp only[fc,aB] at *;clear aL aS cq
   cases fin
   ·rw[Bool.not_false,Bool.and_true,Bool.or_false];refine aH Tryz.func244 ?_;(refine yX J aa az bk ?_;and_intros <;> intros)
    all_goals first|exact fq|skip
   ·rw[Bool.not_true,Bool.and_false,Bool.or_true];refine aH Tryz.func244 ?_;(refine yX J aa az bk ?_;and_intros <;> intros)
    all_goals first|exact fq|skip
  ·rw[ah hn0,ah hn0];clear az bk cq;obtain ⟨data,f0,next,jy,lost,dO,hT,b8⟩:=s;dsimp only[fc,aB] at *;clear aL aS
   cases fin
   ·rw[Bool.not_false,Bool.and_true,Bool.or_false];refine aH Tryz.func244 ?_;(refine jJ J aa ?_;and_intros <;> intros)
    all_goals first|exact fq|skip
   ·rw[Bool.not_true,Bool.and_false,Bool.or_true];refine aH Tryz.func244 ?_;(refine jJ J aa ?_;and_intros <;> intros)
    all_goals first|exact fq|skip
 ·rw[ah fz] at J;rw[al fz];clear aa az bk;generalize kd s off n fin=e at *;refine aH Tryz.func244 ?_;(refine bH J ?_;and_intros <;> intros)
  all_goals first|exact fq|skip
end
end Go.Proofs.YtendheafcbickaaGreat
