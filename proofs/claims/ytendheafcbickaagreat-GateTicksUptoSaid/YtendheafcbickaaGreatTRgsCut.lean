
import Derived.Test.YtendheafcbickaaGreatTZip
import Derived.Test.YtendheafcbickaaGreatTGo
import Derived.Test.YtendheafcbickaaGreatTMg07
set_option linter.unusedVariables false
set_option linter.unusedSimpArgs false
namespace Go.Proofs.YtendheafcbickaaGreat
set_option maxRecDepth 100000
attribute [local irreducible] cq a8 bw GStep Fn cu bk
theorem Dt (l:List aQ) (r:aQ) (hw:∀ y,y ∈ l->fz y) (aq:l.length * 16<=140737488355312):Fn Tryz.prog 288 [.ro (l.map aD),.agg (aD r)] (.lit (.int .i64 (ih l r))):=by
 have I:=vF l hw aq
 unfold ih
 generalize gH l=e at *
 refine aU ae Tryz.func288 rfl ae ?_
 (repeat' first|(refine ar (I) (h:=?_))|(refine au (I) (h:=?_))|(refine dM (uq _) (ht:=?_) (hff:=?_) <;> intro _ <;> try (exfalso;omega))|(refine dN (uq _) (ht:=?_) (hff:=?_) <;> intro _ <;> try (exfalso;omega))|(refine ab ?_;((repeat' first|exact True.intro|refine R.mk ?_ ?_);all_goals intros))|fail "")
 all_goals (refine bt (hr:=?_))
 all_goals first
  | rw[if_pos ca]
  | rw[if_neg ca,if_pos ca]
  | rw[if_neg ca,if_neg ca]
def qe (r x:aQ):List aQ:=(if x.bs<r.bs then[⟨x.bs,min x.br (r.bs - 1)⟩] else[])++(if r.br<x.br then[⟨max x.bs (r.br+1),x.br⟩] else[])
def e3 (l:List aQ) (r:aQ):List aQ:=l.flatMap (qe r)
theorem P4 (r:aQ):e3 [] r=[]:=rfl
theorem zL (x r:aQ) (l:List aQ):e3 (x :: l) r=qe r x++e3 l r:=rfl
theorem P5 (l m:List aQ) (r:aQ):e3 (l++m) r=e3 l r++e3 m r:=by unfold e3;rw[List.flatMap_append]
theorem P6 (x r:aQ):e3 [x] r=qe r x:=by rw[zL,P4,List.append_nil]
theorem we:∀ {l:List aQ} {a b:Int},ed a l->b<=a->ed b l
 | [],_,_,_,_=>trivial
 | r :: l,a,b,h,hb=>⟨h.1,by have:=h.2.1;omega,h.2.2⟩
theorem ji:∀ {l:List aQ} {a:Int},ed a l -> ∀ x ∈ l,b9 x/\a+2<=x.bs
 | r :: l,a,h,x,U=>by
  rcases List.mem_cons.1 U with rfl|U
  ·exact⟨h.1,h.2.1⟩
  ·have:=ji h.2.2 x U
   have I:=h.1
   have J:=h.2.1
   unfold b9 at I
   exact⟨this.1,by omega⟩
theorem zM:∀ {l:List aQ} {a:Int} (k:Nat),ed a l->ed a (l.take k)
 | [],_,k,h=>by simp[ed]
 | r :: l,a,0,h=>trivial
 | r :: l,a,k+1,h=>⟨h.1,h.2.1,zM k h.2.2⟩
theorem Ie {r:aQ} (hr:b9 r):∀ {l:List aQ} {a:Int},ed a l->r.br<=a+1->(e3 l r).length<=l.length
 | [],_,_,_=>by simp[e3]
 | x :: l,a,h,bj=>by
  have I:=h.1
  have J:=h.2.1
  have:=Ie hr (a:=x.br) h.2.2 (by unfold b9 at I;omega)
  rw[zL,List.length_append,List.length_cons]
  unfold qe
  unfold b9 at hr
  rw[if_neg (by omega)]
  split <;> simp <;> omega
theorem uu {r:aQ} (hr:b9 r):∀ {l:List aQ} {a:Int},ed a l->(e3 l r).length<=l.length+1
 | [],_,_=>by simp[e3]
 | x :: l,a,h=>by
  have I:=h.1
  have av:=uu hr (a:=x.br) h.2.2
  rw[zL,List.length_append,List.length_cons]
  unfold qe
  by_cases hc:r.br<x.br
  ·have:=Ie hr (a:=x.br) h.2.2 (by omega)
   rw[if_pos hc]
   split <;> simp <;> omega
  ·rw[if_neg hc]
   split <;> simp <;> omega
theorem zN {r:aQ} (hr:b9 r):∀ {l:List aQ} {a:Int},ed a l->ed a (e3 l r)
 | [],_,_=>trivial
 | x :: l,a,h=>by
  have I:=h.1
  have J:=h.2.1
  have av:=zN hr (a:=x.br) h.2.2
  rw[zL]
  unfold qe
  unfold b9 at hr I
  by_cases aK:x.bs<r.bs
  ·by_cases aX:r.br<x.br
   ·rw[if_pos aK,if_pos aX]
    exact⟨by unfold b9;dsimp only;omega,by dsimp only;omega,by unfold b9;dsimp only;omega,by dsimp only;omega,av⟩
   ·rw[if_pos aK,if_neg aX]
    exact⟨by unfold b9;dsimp only;omega,by dsimp only;omega,we av kU⟩
  ·by_cases aX:r.br<x.br
   ·rw[if_neg aK,if_pos aX]
    exact⟨by unfold b9;dsimp only;omega,by dsimp only;omega,av⟩
   ·rw[if_neg aK,if_neg aX]
    exact we av (by omega)
theorem oy {l:List aQ} (h:gH l=0):ed (-2) l:=by
 unfold gH at h
 split at h
 ·assumption
 ·cases h
theorem Du {l:List aQ} {r:aQ} (h:ih l r=0):ed (-2) l/\b9 r:=by
 unfold ih at h
 split at h
 ·omega
 ·split at h
  ·exact⟨oy (by omega),by assumption⟩
  ·cases h
def sE (l:List aQ) (r:aQ):List aQ×Int:=if ih l r≠0 then([],ih l r) else(e3 l r,0)
theorem Ig {l:List aQ} {k:Nat} (h:k<l.length) (r:aQ):e3 (l.take (k+1)) r=e3 (l.take k) r++qe r (l.getD k default):=by
 rw[hy h,P5,P6]
theorem Hz (l:List aQ) (r:aQ) (hw:∀ y,y ∈ l->fz y) (aq:l.length * 16<=140737488355312):Fn Tryz.prog 292 [.ro (l.map aD),.agg (aD r)] (.b0 [.ro ((sE l r).1.map aD),.lit (.int .i64 (sE l r).2)]):=by
 have I:=Dt l r hw aq
 unfold sE
 by_cases af:ih l r=0
 ·obtain ⟨ap,hr⟩:=Du af
  rw[af] at I ⊢
  rw[if_neg (by omega)]
  unfold b9 at hr
  refine aU ae Tryz.func292 rfl ae ?_
  (repeat' first|(refine ar (I) (h:=?_))|(refine au (I) (h:=?_))|(refine ab ?_;((repeat' first|exact True.intro|refine R.mk ?_ ?_);all_goals intros))|fail "")
  refine b2 (fun k:Nat=>⟨[(3,.ptr 0 0 0 0),(16,.ro (l.map aD)),(17,.lit (.int .i64 l.length)),(18,.lit (.int .i64 k)),(7,.own 1)],[(0,some (.box 146 (aD r))),(1,some (.row 146 2 ((e3 (l.take k) r).map aD)))],2,Tryz.f292.ntmps⟩)
   (fun k=>k<=l.length) (fun k=>l.length - k) 0 (Nat.zero_le _) ((ic (n:=1) (t:=7) 146 2 rfl rfl rfl).trans du) ?_
  intro k ag
  by_cases aJ:k<l.length
  ·obtain ⟨U,zO⟩:=ji ap _ (cY aJ)
   have mN:=Ig aJ r
   have hlen:=uu (r:=r) hr (zM (k+1) ap)
   have cj:(l.take (k+1)).length<=l.length:=by rw[List.length_take];omega
   rw[mN] at hlen
   unfold qe at mN hlen
   unfold b9 at U
   by_cases aK:(l.getD k default).bs<r.bs
   ·by_cases aX:r.br<(l.getD k default).br
    ·rw[if_pos aK,if_pos aX] at mN hlen
     simp only[List.length_append,List.length_cons,List.length_nil] at hlen
     (repeat' first|(refine cx (r:=(e3 (l.take k) r++[aQ.mk (l.getD k default).bs (min (l.getD k default).br (r.bs - 1))]).map aD) ?_ ?_ ?_ ?_ (h:=?_);(exact aM);(exact al);(exact an);(exact ao))|(refine cD (r:=(e3 (l.take k) r++[aQ.mk (l.getD k default).bs (min (l.getD k default).br (r.bs - 1))]).map aD) ?_ ?_ ?_ ?_ (h:=?_);(exact aM);(exact al);(exact an);(exact ao))|(refine cE (r:=(e3 (l.take k) r++[aQ.mk (l.getD k default).bs (min (l.getD k default).br (r.bs - 1))]).map aD) ?_ ?_ ?_ ?_ (h:=?_);(exact aM);(exact al);(exact an);(exact ao))|(refine cF (r:=(e3 (l.take k) r++[aQ.mk (l.getD k default).bs (min (l.getD k default).br (r.bs - 1))]).map aD) ?_ ?_ ?_ ?_ (h:=?_);(exact aM);(exact al);(exact an);(exact ao))|(refine cx (r:=(e3 (l.take (k+1)) r).map aD) ?_ ?_ ?_ ?_ (h:=?_);(exact n2);(exact al);(exact an);(exact ao))|(refine cD (r:=(e3 (l.take (k+1)) r).map aD) ?_ ?_ ?_ ?_ (h:=?_);(exact n2);(exact al);(exact an);(exact ao))|(refine cE (r:=(e3 (l.take (k+1)) r).map aD) ?_ ?_ ?_ ?_ (h:=?_);(exact n2);(exact al);(exact an);(exact ao))|(refine cF (r:=(e3 (l.take (k+1)) r).map aD) ?_ ?_ ?_ ?_ (h:=?_);(exact n2);(exact al);(exact an);(exact ao))|(refine ab ?_;((repeat' first|exact True.intro|refine R.mk ?_ ?_);all_goals intros))|fail "")
     all_goals (refine ⟨k+1,?_,?_,?_⟩;rotate_left 2;(exact ax);(exact bN);(exact gI))
    ·rw[if_pos aK,if_neg aX] at mN hlen
     simp only[List.length_append,List.length_cons,List.length_nil] at hlen
     (repeat' first|(refine cx (r:=(e3 (l.take (k+1)) r).map aD) ?_ ?_ ?_ ?_ (h:=?_);(exact n2);(exact al);(exact an);(exact ao))|(refine cD (r:=(e3 (l.take (k+1)) r).map aD) ?_ ?_ ?_ ?_ (h:=?_);(exact n2);(exact al);(exact an);(exact ao))|(refine cE (r:=(e3 (l.take (k+1)) r).map aD) ?_ ?_ ?_ ?_ (h:=?_);(exact n2);(exact al);(exact an);(exact ao))|(refine cF (r:=(e3 (l.take (k+1)) r).map aD) ?_ ?_ ?_ ?_ (h:=?_);(exact n2);(exact al);(exact an);(exact ao))|(refine ab ?_;((repeat' first|exact True.intro|refine R.mk ?_ ?_);all_goals intros))|fail "")
     all_goals (refine ⟨k+1,?_,?_,?_⟩;rotate_left 2;(exact ax);(exact bN);(exact gI))
   ·by_cases aX:r.br<(l.getD k default).br
    ·rw[if_neg aK,if_pos aX] at mN hlen
     simp only[List.length_append,List.length_cons,List.length_nil] at hlen
     (repeat' first|(refine cx (r:=(e3 (l.take (k+1)) r).map aD) ?_ ?_ ?_ ?_ (h:=?_);(exact n2);(exact al);(exact an);(exact ao))|(refine cD (r:=(e3 (l.take (k+1)) r).map aD) ?_ ?_ ?_ ?_ (h:=?_);(exact n2);(exact al);(exact an);(exact ao))|(refine cE (r:=(e3 (l.take (k+1)) r).map aD) ?_ ?_ ?_ ?_ (h:=?_);(exact n2);(exact al);(exact an);(exact ao))|(refine cF (r:=(e3 (l.take (k+1)) r).map aD) ?_ ?_ ?_ ?_ (h:=?_);(exact n2);(exact al);(exact an);(exact ao))|(refine ab ?_;((repeat' first|exact True.intro|refine R.mk ?_ ?_);all_goals intros))|fail "")
     all_goals (refine ⟨k+1,?_,?_,?_⟩;rotate_left 2;(exact ax);(exact bN);(exact gI))
    ·rw[if_neg aK,if_neg aX,List.append_nil,List.append_nil] at mN
     rw[<- mN]
     (repeat' first|(refine ab ?_;((repeat' first|exact True.intro|refine R.mk ?_ ?_);all_goals intros))|fail "")
     all_goals (refine ⟨k+1,?_,?_,?_⟩;rotate_left 2;(exact ax);(exact bN);(exact gI))
  ·(repeat' first|(refine ab ?_;((repeat' first|exact True.intro|refine R.mk ?_ ?_);all_goals intros))|fail "")
   all_goals (refine bt (hr:=?_);rw[List.take_of_length_le (by omega)])
 ·rw[if_pos af]
  generalize ih l r=e at *
  refine aU ae Tryz.func292 rfl ae ?_
  (repeat' first|(refine ar (I) (h:=?_))|(refine au (I) (h:=?_))|(refine ab ?_;((repeat' first|exact True.intro|refine R.mk ?_ ?_);all_goals intros))|fail "")
  all_goals (exact bD)
def kX (l:List aQ) (r:aQ) (k:Nat):Nat->List aQ
 | 0=>e3 (l.take k) r
 | 1=>e3 (l.take k) r++(if (l.getD k default).bs<r.bs then[aQ.mk (l.getD k default).bs (min (l.getD k default).br (r.bs - 1))] else[])
 | _=>e3 (l.take (k+1)) r
theorem Dv (l:List aQ) (r:aQ) (k:Nat):kX l r k 0=e3 (l.take k) r:=rfl
theorem wg (l:List aQ) (r:aQ) (k:Nat):kX l r k 1=e3 (l.take k) r++(if (l.getD k default).bs<r.bs then[aQ.mk (l.getD k default).bs (min (l.getD k default).br (r.bs - 1))] else[]):=rfl
theorem Ih (l:List aQ) (r:aQ) (k:Nat):kX l r k 2=e3 (l.take (k+1)) r:=rfl
theorem HF (l:List aQ) (r:aQ) (ap:ed (-2) l) (hr:b9 r) (aq:l.length * 16<=140737488355312):Fn Tryz.prog 262 [.ro (l.map aD),.agg (aD r)] (.ro ((e3 l r).map aD)):=by
 unfold b9 at hr
 refine aU ae Tryz.func262 rfl ae ?_
 (repeat' first|(refine ab ?_;((repeat' first|exact True.intro|refine R.mk ?_ ?_);all_goals intros))|fail "")
 refine b2 (fun k:Nat=>⟨[(3,.ptr 0 0 0 0),(10,.ro (l.map aD)),(11,.lit (.int .i64 l.length)),(12,.lit (.int .i64 k)),(5,.own 1)],[(0,some (.box 146 (aD r))),(1,some (.row 146 2 ((e3 (l.take k) r).map aD)))],2,Tryz.f262.ntmps⟩)
  (fun k=>k<=l.length) (fun k=>l.length - k) 0 (Nat.zero_le _) ((ic (n:=1) (t:=5) 146 2 rfl rfl rfl).trans du) ?_
 intro k ag
 by_cases aJ:k<l.length
 ·obtain ⟨U,zO⟩:=ji ap _ (cY aJ)
  have mN:=Ig aJ r
  have hlen:=uu (r:=r) hr (zM (k+1) ap)
  have cj:(l.take (k+1)).length<=l.length:=by rw[List.length_take];omega
  rw[mN] at hlen
  unfold qe at mN hlen
  unfold b9 at U
  rw[List.length_append,List.length_append] at hlen
  (repeat' first|(refine ab ?_;((repeat' first|exact True.intro|refine R.mk ?_ ?_);all_goals intros))|fail "")
  refine b2 (fun j:Nat=>⟨[(3,.ptr 0 0 0 0),(10,.ro (l.map aD)),(11,.lit (.int .i64 l.length)),(12,.lit (.int .i64 k)),(34,.ro [[.lit (.int .i64 (l.getD k default).bs),.lit (.int .i64 (min (l.getD k default).br (r.bs - 1)))],[.lit (.int .i64 (max (l.getD k default).bs (r.br+1))),.lit (.int .i64 (l.getD k default).br)]]),(35,.lit (.int .i64 2)),(36,.lit (.int .i64 j)),(5,.own 1)],[(0,some (.box 146 (aD r))),(1,some (.row 146 2 ((kX l r k j).map aD)))],2,Tryz.f262.ntmps⟩)
   (fun j=>j<=2) (fun j=>2 - j) 0 (by omega) du ?_
  intro j ah
  obtain rfl|rfl|rfl:j=0\/j=1\/j=2:=by omega
  ·have hb:(kX l r k 0).length<=l.length:=by
    have J:=uu (r:=r) hr (zM k ap)
    rw[Dv];rw[List.length_take] at J;omega
   by_cases aK:(l.getD k default).bs<r.bs
   ·(repeat' first|(refine cx (r:=(kX l r k 1).map aD) ?_ ?_ ?_ ?_ (h:=?_);(exact zP);(exact al);(exact an);(exact ao))|(refine cD (r:=(kX l r k 1).map aD) ?_ ?_ ?_ ?_ (h:=?_);(exact zP);(exact al);(exact an);(exact ao))|(refine cE (r:=(kX l r k 1).map aD) ?_ ?_ ?_ ?_ (h:=?_);(exact zP);(exact al);(exact an);(exact ao))|(refine cF (r:=(kX l r k 1).map aD) ?_ ?_ ?_ ?_ (h:=?_);(exact zP);(exact al);(exact an);(exact ao))|(refine ab ?_;((repeat' first|exact True.intro|refine R.mk ?_ ?_);all_goals intros))|fail "")
    all_goals (refine ⟨1,?_,?_,?_⟩;rotate_left 2;(exact ax);(exact bN);(exact bN))
   ·have he:(kX l r k 0).map aD=(kX l r k 1).map aD:=by rw[Dv,wg,if_neg aK,List.append_nil]
    (repeat' first|(refine ab ?_;((repeat' first|exact True.intro|refine R.mk ?_ ?_);all_goals intros))|fail "")
    all_goals (refine ⟨1,?_,?_,?_⟩;rotate_left 2;(exact ax);(exact bN);(exact bN))
  ·by_cases aX:r.br<(l.getD k default).br
   ·have hb:(kX l r k 1).length<=l.length:=by rw[wg,List.length_append];rw[if_pos aX] at hlen;simp only[List.length_cons,List.length_nil] at hlen;omega
    (repeat' first|(refine cx (r:=(kX l r k 2).map aD) ?_ ?_ ?_ ?_ (h:=?_);(exact zQ);(exact al);(exact an);(exact ao))|(refine cD (r:=(kX l r k 2).map aD) ?_ ?_ ?_ ?_ (h:=?_);(exact zQ);(exact al);(exact an);(exact ao))|(refine cE (r:=(kX l r k 2).map aD) ?_ ?_ ?_ ?_ (h:=?_);(exact zQ);(exact al);(exact an);(exact ao))|(refine cF (r:=(kX l r k 2).map aD) ?_ ?_ ?_ ?_ (h:=?_);(exact zQ);(exact al);(exact an);(exact ao))|(refine ab ?_;((repeat' first|exact True.intro|refine R.mk ?_ ?_);all_goals intros))|fail "")
    all_goals (refine ⟨2,?_,?_,?_⟩;rotate_left 2;(exact ax);(exact bN);(exact bN))
   ·have he:(kX l r k 1).map aD=(kX l r k 2).map aD:=by rw[wg,Ih,mN,if_neg aX,List.append_nil]
    (repeat' first|(refine ab ?_;((repeat' first|exact True.intro|refine R.mk ?_ ?_);all_goals intros))|fail "")
    all_goals (refine ⟨2,?_,?_,?_⟩;rotate_left 2;(exact ax);(exact bN);(exact bN))
  ·skip
   (repeat' first|(refine ab ?_;((repeat' first|exact True.intro|refine R.mk ?_ ?_);all_goals intros))|fail "")
   all_goals (refine ⟨k+1,?_,?_,?_⟩;rotate_left 2;(exact ax);(exact bN);(exact gI))
 ·(repeat' first|(refine ab ?_;((repeat' first|exact True.intro|refine R.mk ?_ ?_);all_goals intros))|fail "")
  all_goals (refine bt (hr:=?_);rw[List.take_of_length_le (by omega)])
end Go.Proofs.YtendheafcbickaaGreat
