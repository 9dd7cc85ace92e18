
import Derived.Test.YtendheafcbickaaGreatCRgs
set_option linter.unusedVariables false
set_option linter.unusedSimpArgs false
namespace Go.Proofs.YtendheafcbickaaGreat
variable {l:List aK}
set_option maxRecDepth 100000
attribute [local irreducible] cE a6 bu GStep Fn cg bf
theorem HP (l:List aK) (r:aK) (hw:∀ y,y ∈ l->fB y) (ao:l.length * 16<=140737488355312):Fn Tryz.prog 288 [.ro (l.map aB),.agg (aB r)] (I (hF l r)):=by
 have J:=wj l hw ao;unfold hF;generalize gi l=e at *;refine aH Tryz.func288 ?_;(repeat' first|refine bh J ?_|(refine h4 (wh _) (ht:=?_) (hff:=?_) <;> intro _ <;> try (exfalso;omega))|(refine h5 (wh _) (ht:=?_) (hff:=?_) <;> intro _ <;> try (exfalso;omega))|(refine ay ?_;(and_intros <;> intros))|fail)
 all_goals (refine bX (hr:=?_))
 all_goals first
  | rw[al cu]
  | rw[ah cu,al cu]
  | rw[ah cu,ah cu]
def pN (r x:aK):List aK:=(if x.bE<r.bE then[⟨x.bE,min x.bz (r.bE - 1)⟩] else[])++(if r.bz<x.bz then[⟨max x.bE (r.bz+1),x.bz⟩] else[])
def gh (l:List aK) (r:aK):List aK:=l.flatMap (pN r)
theorem Vg (r:aK):gh [] r=[]:=rfl
theorem ze (x r:aK) (l:List aK):gh (x :: l) r=pN r x++gh l r:=rfl
theorem NO (l m:List aK) (r:aK):gh (l++m) r=gh l r++gh m r:=by unfold gh;rw[List.flatMap_append]
theorem HQ (x r:aK):gh [x] r=pN r x:=by rw[ze,Vg,lV]
theorem zf:∀ {l:List aK} {a b:Int},eD a l->b<=a->eD b l
 | [],_,_,_,_=>trivial
 | r :: l,a,b,h,hb=>⟨h.1,by have:=h.2.1;omega,h.2.2⟩
theorem iC:∀ {l:List aK} {a:Int},eD a l -> ∀ x ∈ l,b9 x/\a+2<=x.bE
 | r :: l,a,h,x,U=>by
  rcases hX.1 U with rfl|U
  ·exact⟨h.1,h.2.1⟩
  ·have:=iC h.2.2 x U;have J:=h.1;have aa:=h.2.1;unfold b9 at J;exact⟨this.1,by omega⟩
theorem C8:∀ {l:List aK} {a:Int} (k:Nat),eD a l->eD a (l.take k)
 | [],_,k,h=>by simp[eD]
 | r :: l,a,0,h=>trivial
 | r :: l,a,k+1,h=>⟨h.1,h.2.1,C8 k h.2.2⟩
theorem NP {r:aK} (hr:b9 r):∀ {l:List aK} {a:Int},eD a l->r.bz<=a+1->(gh l r).length<=l.length
 | [],_,_,_=>by simp[gh]
 | x :: l,a,h,br=>by
  have J:=h.1;have aa:=h.2.1;have:=NP hr (a:=x.bz) h.2.2 (by unfold b9 at J;omega);rw[ze,eE,eb];unfold pN;unfold b9 at hr;rw[ah (by omega)];split <;> simp <;> omega
theorem xm {r:aK} (hr:b9 r):∀ {l:List aK} {a:Int},eD a l->(gh l r).length<=l.length+1
 | [],_,_=>by simp[gh]
 | x :: l,a,h=>by
  have J:=h.1;have az:=xm hr (a:=x.bz) h.2.2;rw[ze,eE,eb];unfold pN;by_cases hc:r.bz<x.bz
  ·have:=NP hr (a:=x.bz) h.2.2 (by omega);rw[al hc];split <;> simp <;> omega
  ·rw[ah hc];split <;> simp <;> omega
theorem HR {r:aK} (hr:b9 r):∀ {l:List aK} {a:Int},eD a l->eD a (gh l r)
 | [],_,_=>trivial
 | x :: l,a,h=>by
  have J:=h.1;have aa:=h.2.1;have az:=HR hr (a:=x.bz) h.2.2;rw[ze];unfold pN;unfold b9 at hr J;by_cases b6:x.bE<r.bE
  ·by_cases cU:r.bz<x.bz
   ·rw[al b6,al cU];exact⟨by unfold b9;dsimp only;omega,by dsimp only;omega,by unfold b9;dsimp only;omega,by dsimp only;omega,az⟩
   ·rw[al b6,ah cU];exact⟨by unfold b9;dsimp only;omega,by dsimp only;omega,zf az b4⟩
  ·by_cases cU:r.bz<x.bz
   ·rw[ah b6,al cU];exact⟨by unfold b9;dsimp only;omega,by dsimp only;omega,az⟩
   ·rw[ah b6,ah cU];exact zf az (by omega)
theorem qF (h:gi l=0):eD (-2) l:=by
 unfold gi at h;split at h
 ·assumption
 ·cases h
theorem CN {r:aK} (h:hF l r=0):eD (-2) l/\b9 r:=by
 unfold hF at h;split at h
 ·omega
 ·split at h
  ·exact⟨qF (by omega),by assumption⟩
  ·cases h
def zg (l:List aK) (r:aK):List aK×Int:=if hF l r≠0 then([],hF l r) else(gh l r,0)
theorem NQ {k:Nat} (h:k<l.length) (r:aK):gh (l.take (k+1)) r=gh (l.take k) r++pN r (l.getD k default):=by
 rw[mN h,NO,HQ]
theorem NR (l:List aK) (r:aK) (hw:∀ y,y ∈ l->fB y) (ao:l.length * 16<=140737488355312):Fn Tryz.prog 292 [.ro (l.map aB),.agg (aB r)] (.bN [.ro ((zg l r).1.map aB),I (zg l r).2]):=by
 have J:=HP l r hw ao;unfold zg;by_cases ai:hF l r=0
 ·obtain ⟨aw,hr⟩:=CN ai;rw[ai] at J ⊢;rw[ah (by omega)];unfold b9 at hr;refine aH Tryz.func292 ?_;(refine bH J ?_;and_intros <;> intros);refine cv (fun k:Nat=>⟨[(3,.ptr 0 0 0 0),(16,.ro (l.map aB)),(17,I l.length),(18,I k),(7,.own 1)],[(0,some (.box 146 (aB r))),(1,some (.row 146 2 ((gh (l.take k) r).map aB)))],2,Tryz.f292.ntmps⟩)
   (fun k=>k<=l.length) (fun k=>l.length - k) 0 (cm _) ((iR (n:=1) (t:=7) 146 2 rfl rfl rfl).trans dV) ?_
  intro k ag;by_cases au:k<l.length
  ·obtain ⟨U,C9⟩:=iC aw _ (cc au);have jx:=NQ au r;have hlen:=xm (r:=r) hr (C8 (k+1) aw);have bW:(l.take (k+1)).length<=l.length:=by rw[kO];omega
   rw[jx] at hlen;unfold pN at jx hlen;unfold b9 at U;by_cases b6:(l.getD k default).bE<r.bE
   ·by_cases cU:r.bz<(l.getD k default).bz
    ·rw[al b6,al cU] at jx hlen;simp only[eE,eb,fg] at hlen;(repeat' first|refine eP ((gh (l.take k) r++[aK.mk (l.getD k default).bE (min (l.getD k default).bz (r.bE - 1))]).map aB) ?_|(refine kI (r:=(gh (l.take (k+1)) r).map aB) ?_ ?_ ?_ ?_ (h:=?_);(exact tA);(exact dm);(exact dp);(exact dq))|(refine k9 (r:=(gh (l.take (k+1)) r).map aB) ?_ ?_ ?_ ?_ (h:=?_);(exact tA);(exact dm);(exact dp);(exact dq))|(refine la (r:=(gh (l.take (k+1)) r).map aB) ?_ ?_ ?_ ?_ (h:=?_);(exact tA);(exact dm);(exact dp);(exact dq))|(refine kl (r:=(gh (l.take (k+1)) r).map aB) ?_ ?_ ?_ ?_ (h:=?_);(exact tA);(exact dm);(exact dp);(exact dq))|(refine ay ?_;(and_intros <;> intros))|fail)
     all_goals (exact⟨k+1,(by omega),au,ba⟩)
    ·rw[al b6,ah cU] at jx hlen;simp only[eE,eb,fg] at hlen;(refine NS ?_;and_intros <;> intros)
     all_goals (exact⟨k+1,(by omega),au,ba⟩)
   ·by_cases cU:r.bz<(l.getD k default).bz
    ·rw[ah b6,al cU] at jx hlen;simp only[eE,eb,fg] at hlen;(refine NS ?_;and_intros <;> intros)
     all_goals (exact⟨k+1,(by omega),au,ba⟩)
    ·rw[ah b6,ah cU,lV,lV] at jx;rw[<- jx];(try refine ay ?_;and_intros <;> intros)
     all_goals (exact⟨k+1,(by omega),au,ba⟩)
  ·(try refine ay ?_;and_intros <;> intros)
   all_goals (refine bX (hr:=?_);rw[j9 (by omega)])
 ·rw[al ai];generalize hF l r=e at *;refine aH Tryz.func292 ?_;(refine bH J ?_;and_intros <;> intros)
  all_goals (exact gS)
def l7 (l:List aK) (r:aK) (k:Nat):Nat->List aK
 | 0=>gh (l.take k) r
 | 1=>gh (l.take k) r++(if (l.getD k default).bE<r.bE then[aK.mk (l.getD k default).bE (min (l.getD k default).bz (r.bE - 1))] else[])
 | _=>gh (l.take (k+1)) r
theorem HS (l:List aK) (r:aK) (k:Nat):l7 l r k 0=gh (l.take k) r:=rfl
theorem zh (l:List aK) (r:aK) (k:Nat):l7 l r k 1=gh (l.take k) r++(if (l.getD k default).bE<r.bE then[aK.mk (l.getD k default).bE (min (l.getD k default).bz (r.bE - 1))] else[]):=rfl
theorem NT (l:List aK) (r:aK) (k:Nat):l7 l r k 2=gh (l.take (k+1)) r:=rfl
theorem HT (l:List aK) (r:aK) (aw:eD (-2) l) (hr:b9 r) (ao:l.length * 16<=140737488355312):Fn Tryz.prog 262 [.ro (l.map aB),.agg (aB r)] (.ro ((gh l r).map aB)):=by
 unfold b9 at hr;refine aH Tryz.func262 ?_;(try refine ay ?_;and_intros <;> intros);refine cv (fun k:Nat=>⟨[(3,.ptr 0 0 0 0),(10,.ro (l.map aB)),(11,I l.length),(12,I k),(5,.own 1)],[(0,some (.box 146 (aB r))),(1,some (.row 146 2 ((gh (l.take k) r).map aB)))],2,Tryz.f262.ntmps⟩)
  (fun k=>k<=l.length) (fun k=>l.length - k) 0 (cm _) ((iR (n:=1) (t:=5) 146 2 rfl rfl rfl).trans dV) ?_
 intro k ag;by_cases au:k<l.length
 ·obtain ⟨U,C9⟩:=iC aw _ (cc au);have jx:=NQ au r;have hlen:=xm (r:=r) hr (C8 (k+1) aw);have bW:(l.take (k+1)).length<=l.length:=by rw[kO];omega
  rw[jx] at hlen;unfold pN at jx hlen;unfold b9 at U;rw[eE,eE] at hlen;(try refine ay ?_;and_intros <;> intros);refine cv (fun j:Nat=>⟨[(3,.ptr 0 0 0 0),(10,.ro (l.map aB)),(11,I l.length),(12,I k),(34,.ro [[I (l.getD k default).bE,I (min (l.getD k default).bz (r.bE - 1))],[I (max (l.getD k default).bE (r.bz+1)),I (l.getD k default).bz]]),(35,I 2),(36,I j),(5,.own 1)],[(0,some (.box 146 (aB r))),(1,some (.row 146 2 ((l7 l r k j).map aB)))],2,Tryz.f262.ntmps⟩)
   (fun j=>j<=2) (fun j=>2 - j) 0 (by omega) dV ?_
  intro j ad;obtain rfl|rfl|rfl:j=0\/j=1\/j=2:=by omega
  ·have hb:(l7 l r k 0).length<=l.length:=by
    have aa:=xm (r:=r) hr (C8 k aw);rw[HS];rw[kO] at aa;omega
   by_cases b6:(l.getD k default).bE<r.bE
   ·(repeat' first|(refine kI (r:=(l7 l r k 1).map aB) ?_ ?_ ?_ ?_ (h:=?_);(exact Da);(exact dm);(exact dp);(exact dq))|(refine k9 (r:=(l7 l r k 1).map aB) ?_ ?_ ?_ ?_ (h:=?_);(exact Da);(exact dm);(exact dp);(exact dq))|(refine la (r:=(l7 l r k 1).map aB) ?_ ?_ ?_ ?_ (h:=?_);(exact Da);(exact dm);(exact dp);(exact dq))|(refine kl (r:=(l7 l r k 1).map aB) ?_ ?_ ?_ ?_ (h:=?_);(exact Da);(exact dm);(exact dp);(exact dq))|(refine ay ?_;(and_intros <;> intros))|fail)
    all_goals (exact⟨1,(by omega),(by omega),ba⟩)
   ·have he:(l7 l r k 0).map aB=(l7 l r k 1).map aB:=by rw[HS,zh,ah b6,lV]
    (try refine ay ?_;and_intros <;> intros)
    all_goals (exact⟨1,(by omega),(by omega),ba⟩)
  ·by_cases cU:r.bz<(l.getD k default).bz
   ·have hb:(l7 l r k 1).length<=l.length:=by rw[zh,eE];rw[al cU] at hlen;simp only[eb,fg] at hlen;omega
    (repeat' first|(refine kI (r:=(l7 l r k 2).map aB) ?_ ?_ ?_ ?_ (h:=?_);(exact Db);(exact dm);(exact dp);(exact dq))|(refine k9 (r:=(l7 l r k 2).map aB) ?_ ?_ ?_ ?_ (h:=?_);(exact Db);(exact dm);(exact dp);(exact dq))|(refine la (r:=(l7 l r k 2).map aB) ?_ ?_ ?_ ?_ (h:=?_);(exact Db);(exact dm);(exact dp);(exact dq))|(refine kl (r:=(l7 l r k 2).map aB) ?_ ?_ ?_ ?_ (h:=?_);(exact Db);(exact dm);(exact dp);(exact dq))|(refine ay ?_;(and_intros <;> intros))|fail)
    all_goals (exact⟨2,(by omega),(by omega),ba⟩)
   ·have he:(l7 l r k 1).map aB=(l7 l r k 2).map aB:=by rw[zh,NT,jx,ah cU,lV]
    (try refine ay ?_;and_intros <;> intros)
    all_goals (exact⟨2,(by omega),(by omega),ba⟩)
  ·skip;(try refine ay ?_;and_intros <;> intros)
   all_goals (exact⟨k+1,(by omega),au,ba⟩)
 ·(try refine ay ?_;and_intros <;> intros)
  all_goals (refine bX (hr:=?_);rw[j9 (by omega)])
end Go.Proofs.YtendheafcbickaaGreat
