/-
  SEVERAL TEXTS IN ONE: each with its own comment.
-/
import Derived.Test.YtendheafcbickaaGreatTZip
import Derived.Test.YtendheafcbickaaGreatTGo
import Derived.Test.YtendheafcbickaaGreatTMg13
import Derived.Test.YtendheafcbickaaGreatTCnFr
import Derived.Test.YtendheafcbickaaGreatTMg06
import Derived.Test.YtendheafcbickaaGreatTMg09
import Derived.Test.YtendheafcbickaaGreatTMg12
import Derived.Test.YtendheafcbickaaGreatTAbsB
import Derived.Test.YtendheafcbickaaGreatTRgsCut
set_option linter.unusedVariables false
set_option linter.unusedSimpArgs false
set_option maxHeartbeats 16000000
namespace Go.Proofs.YtendheafcbickaaGreat
section
set_option maxRecDepth 100000
attribute [local irreducible] cq a8 bw GStep Fn cu bk cU
def Vj (id:Int):dV:=⟨id,⟨0,[],-1,300⟩,[],false,false,⟨[],false,0,300,[],[],false,false⟩⟩
def HX (c:a6):a6:={ c with aO:=c.aO++[Vj c.gJ],gJ:=c.gJ+1 }
noncomputable def oK (c:a6):a6×Int×Int:=
 if l0 c=0 then(if c.iz=true then(default,0,17) else if c.Client=false then(default,0,2) else if c.gJ >= c.ks\/c.aO.length=4 then(default,0,8) else(HX c,c.gJ,0)) else(default,0,9)
def XU (r:a6×Int×Int):V:=.b0 [.agg (e2 r.1),.lit (.int .i64 r.2.1),.lit (.int .i64 r.2.2)]
def XV (id:Int):List V:=[.lit (.int .i64 id),.lit (.int .i64 0),.lit (.slice none 0 0),.lit (.int .i64 (-1)),.lit (.int .i64 300),.lit (.slice none 0 0),.lit (.bool false),.lit (.bool false),.lit (.slice none 0 0),.lit (.bool false),.lit (.int .i64 0),.lit (.int .i64 300),.lit (.slice none 0 0),.lit (.slice none 0 0),.lit (.bool false),.lit (.bool false)]
def eb:List dV->Int->Nat
 | [],_=>0
 | l :: r,id=>if l.Id=id then 0 else eb r id+1
theorem q1:∀ (l:List dV) (id:Int),eb l id<=l.length
 | [],_=>Nat.le_refl _
 | l :: r,id=>by
  unfold eb
  split
  ·simp
  ·have:=q1 r id;simp;omega
theorem MS:∀ (l:List dV) (id:Int),eb l id<l.length->(l.getD (eb l id) default).Id=id
 | [],_,h=>by simp[eb] at h
 | l :: r,id,h=>by
  unfold eb at h ⊢
  split
  ·rename_i e;simpa using e
  ·rename_i e
   rw[if_neg e] at h
   have:=MS r id (by simpa using h)
   simpa using this
theorem MT:∀ (l:List dV) (id:Int) (k:Nat),k<eb l id->(l.getD k default).Id≠id
 | [],_,k,h=>by simp[eb] at h
 | l :: r,id,k,h=>by
  unfold eb at h
  split at h
  ·omega
  ·rename_i e
   cases k with
   | zero=>simpa using e
   | succ k=>simpa using MT r id k (by omega)
theorem MB {l:List dV} {id:Int} {k:Nat} (ag:k<l.length) (I:k<=eb l id) (J:(l.getD k default).Id=id):eb l id=k:=by
 rcases Nat.lt_or_ge k (eb l id) with h|h
 ·exact absurd J (MT l id k h)
 ·omega
theorem MC {l:List dV} {id:Int} {k:Nat} (ag:k<l.length) (I:k<=eb l id) (J:¬ (l.getD k default).Id=id):k+1<=eb l id:=by
 rcases Nat.lt_or_ge k (eb l id) with h|h
 ·exact h
 ·have e:eb l id=k:=by omega
  exact absurd (e ▸ MS l id (by omega)) J
def yE (l:List dV) (id:Int):V:=if eb l id<l.length then .ptr 1 (eb l id) 16 0 else .lit (.pointer none)
theorem MD (c:a6) (id:Int) (aq:c.aO.length<=1000000) :
  cU Tryz.prog 99 [.ptr 0 0 0 0,.lit (.int .i64 id)] [(0,some (.box 116 (gp c (.own 1) (.own 2)))),(1,some (.row 134 16 (c.aO.map cv))),(2,some (.row 111 7 (c.Queue.map aW)))] 3
   (yE c.aO id) [(0,some (.box 116 (gp c (.own 1) (.own 2)))),(1,some (.row 134 16 (c.aO.map cv))),(2,some (.row 111 7 (c.Queue.map aW)))] 3:=by
 have hle:=q1 c.aO id
 generalize fS:yE c.aO id=cN
 unfold yE at fS
 unfold gp
 refine gG ae Tryz.func99 rfl ae (by rfl) ?_
 (repeat' first|(refine ab ?_;((repeat' first|exact True.intro|refine R.mk ?_ ?_);all_goals intros))|fail "")
 refine b2 (fun k:Nat=>⟨[(0,.ptr 0 0 0 0),(1,.lit (.int .i64 id)),(11,.lit (.int .i64 c.aO.length)),(12,.lit (.int .i64 k))],[(0,some (.box 116 [.lit (.bool c.Client),.lit (.int .i64 c.bf.Next),.ro (c.bf.az.map bY),.lit (.int .i64 c.bf.dn),.ro (c.bf.cg.map aD),.ro (c.bf.b7.map encI),.lit (.int .i64 c.e8.cK),.lit (.int .i64 c.e8.eE),.lit (.int .i64 c.e8.dW),.lit (.int .i64 c.e8.Since),.lit (.int .i64 c.fL.Max),.lit (.int .i64 c.fL.cm),.lit (.int .i64 c.fQ.Max),.lit (.int .i64 c.fQ.cm),.lit (.int .i64 c.ks),.lit (.int .i64 c.kK),.lit (.int .i64 c.gJ),.own 1,.lit (.bool c.ke),.own 2,.lit (.int .i64 c.jO),.lit (.int .i64 c.kL),.lit (.bool c.iz),.lit (.int .i64 c.Code)])),(1,some (.row 134 16 (c.aO.map cv))),(2,some (.row 111 7 (c.Queue.map aW)))],3,Tryz.f99.ntmps⟩)
  (fun k=>k<=eb c.aO id) (fun k=>c.aO.length - k) 0 (Nat.zero_le _) gf ?_
 intro k ag
 by_cases aJ:k<c.aO.length
 ·by_cases he:(c.aO.getD k default).Id=id
  ·have U:=MB aJ ag he
   rw[U,if_pos aJ] at fS
   subst fS
   (repeat' first|(refine ab ?_;((repeat' first|exact True.intro|refine R.mk ?_ ?_);all_goals intros))|fail "")
   all_goals first
    | (exact fg)
    | skip
  ·have U:=MC aJ ag he
   (repeat' first|(refine ab ?_;((repeat' first|exact True.intro|refine R.mk ?_ ?_);all_goals intros))|fail "")
   all_goals first
    | (refine ⟨k+1,?_,?_,?_⟩;rotate_left 2;(exact ax);(exact bN);(focus (exact U)))
    | skip
 ·have ct:k=c.aO.length:=by omega
  rw[if_neg (by omega)] at fS
  subst fS
  subst ct
  (repeat' first|(refine ab ?_;((repeat' first|exact True.intro|refine R.mk ?_ ?_);all_goals intros))|fail "")
  all_goals first
   | (exact fg)
   | skip
def qO (f x:bc):Prop:=x.Kind=f.Kind/\x.Id=f.Id/\f.Kind≠27
noncomputable def j6:List bc->bc->Nat
 | [],_=>0
 | x :: r,f=>if yes (qO f x)=true then 0 else j6 r f+1
theorem Gk:∀ (l:List bc) (f:bc),j6 l f<=l.length
 | [],_=>Nat.le_refl _
 | x :: r,f=>by
  unfold j6
  split
  ·simp
  ·have:=Gk r f;simp;omega
theorem MU:∀ (l:List bc) (f:bc),j6 l f<l.length->qO f (l.getD (j6 l f) default)
 | [],_,h=>by simp[j6] at h
 | x :: r,f,h=>by
  unfold j6 at h ⊢
  split
  ·rename_i e;exact uF.1 e
  ·rename_i e
   rw[if_neg e] at h
   have:=MU r f (by simpa using h)
   simpa using this
theorem MV:∀ (l:List bc) (f:bc) (k:Nat),k<j6 l f -> ¬ qO f (l.getD k default)
 | [],_,k,h=>by simp[j6] at h
 | x :: r,f,k,h=>by
  unfold j6 at h
  split at h
  ·omega
  ·rename_i e
   cases k with
   | zero=>exact fun ap=>e (nh (by simpa using ap))
   | succ k=>simpa using MV r f k (by omega)
theorem MW {l:List bc} {f:bc} {k:Nat} (ag:k<l.length) (I:k<=j6 l f) (J:qO f (l.getD k default)):j6 l f=k:=by
 rcases Nat.lt_or_ge k (j6 l f) with h|h
 ·exact absurd J (MV l f k h)
 ·omega
theorem MX {l:List bc} {f:bc} {k:Nat} (ag:k<l.length) (I:k<=j6 l f) (J:¬ qO f (l.getD k default)):k+1<=j6 l f:=by
 rcases Nat.lt_or_ge k (j6 l f) with h|h
 ·exact h
 ·have e:j6 l f=k:=by omega
  exact absurd (e ▸ MU l f (by omega)) J
noncomputable def hG (l:List bc) (f:bc):List bc×Int:=if j6 l f<l.length then(l.set (j6 l f) f,0) else if l.length=12 then(l,8) else(l++[f],0)
theorem ME (l:List bc) (f:bc) (h:l.length<=12):(hG l f).1.length<=12:=by
 unfold hG
 split
 ·rw[List.length_set];exact h
 ·split
  ·exact h
  ·rw[List.length_append,List.length_singleton];omega
theorem NX (l:List bc) (f:bc) (aq:∀ y,y ∈ l->dC y) (hf:dC f):∀ y,y ∈ (hG l f).1->dC y:=by
 intro y ai
 unfold hG at ai
 split at ai
 ·rcases List.mem_or_eq_of_mem_set ai with h|h
  ·exact aq y h
  ·exact h ▸ hf
 ·split at ai
  ·exact aq y ai
  ·rcases List.mem_append.1 ai with h|h
   ·exact aq y h
   ·rw[List.mem_singleton] at h;exact h ▸ hf
def lf (c:a6) (q:List bc):a6:={ c with Queue:=q }
theorem Qf (c:a6) (f:bc) (aq:c.Queue.length<=12):Fn Tryz.prog 146 [.agg (e2 c),.agg (aW f)] (.b0 [.agg (e2 (lf c (hG c.Queue f).1)),.lit (.int .i64 (hG c.Queue f).2)]):=by
 have hle:=Gk c.Queue f
 have ga:∀ i,i<c.Queue.length->bH (c.Queue.map aW) i=aW (c.Queue.getD i default):=fun i hi=>je aW hi
 generalize bn:hG c.Queue f=cN
 unfold hG at bn
 generalize fA:e2 (lf c cN.1)=Z
 unfold lf e2 at fA
 dsimp only at fA
 subst fA
 refine aU ae Tryz.func146 rfl ae ?_
 (repeat' first|(refine cx (r:=c.Queue.map aW) ?_ ?_ ?_ ?_ (h:=?_);(exact aM);(exact al);(exact an);(exact ao))|(refine cD (r:=c.Queue.map aW) ?_ ?_ ?_ ?_ (h:=?_);(exact aM);(exact al);(exact an);(exact ao))|(refine cE (r:=c.Queue.map aW) ?_ ?_ ?_ ?_ (h:=?_);(exact aM);(exact al);(exact an);(exact ao))|(refine cF (r:=c.Queue.map aW) ?_ ?_ ?_ ?_ (h:=?_);(exact aM);(exact al);(exact an);(exact ao))|(refine ab ?_;((repeat' first|exact True.intro|refine R.mk ?_ ?_);all_goals intros))|fail "")
 refine b2 (fun k:Nat=>⟨[(2,.ptr 0 0 0 0),(3,.ptr 1 0 0 0),(4,.ptr 2 0 0 0),(6,.own 3),(13,.own 3),(14,.lit (.int .i64 c.Queue.length)),(15,.lit (.int .i64 k))],[(0,some (.box 51 (e2 c))),(1,some (.box 111 (aW f))),(2,some (.box 51 [.lit (.bool false),.lit (.int .i64 0),.lit (.slice none 0 0),.lit (.int .i64 0),.lit (.slice none 0 0),.lit (.slice none 0 0),.lit (.int .i64 0),.lit (.int .i64 0),.lit (.int .i64 0),.lit (.int .i64 0),.lit (.int .i64 0),.lit (.int .i64 0),.lit (.int .i64 0),.lit (.int .i64 0),.lit (.int .i64 0),.lit (.int .i64 0),.lit (.int .i64 0),.lit (.slice none 0 0),.lit (.bool false),.lit (.slice none 0 0),.lit (.int .i64 0),.lit (.int .i64 0),.lit (.bool false),.lit (.int .i64 0)])),(3,some (.row 111 7 (c.Queue.map aW)))],4,Tryz.f146.ntmps⟩)
  (fun k=>k<=j6 c.Queue f) (fun k=>c.Queue.length - k) 0 (Nat.zero_le _) gf ?_
 intro k ag
 by_cases aJ:k<c.Queue.length
 ·by_cases he:qO f (c.Queue.getD k default)
  ·have U:=MW aJ ag he
   rw[U,if_pos aJ] at bn
   subst bn
   obtain ⟨aH,aN,bS⟩:=he
   (repeat' first|(refine mG (r:=(c.Queue.set k f).map aW) ?_ ?_ (h:=?_);(exact hQ);(exact Ae))|(refine mH (r:=(c.Queue.set k f).map aW) ?_ ?_ (h:=?_);(exact hQ);(exact Ae))|(refine ab ?_;((repeat' first|exact True.intro|refine R.mk ?_ ?_);all_goals intros))|fail "")
   all_goals first
    | (exact bD)
    | (exfalso;omega)
    | skip
  ·have U:=MX aJ ag he
   unfold qO at he
   (repeat' first|(refine ab ?_;((repeat' first|exact True.intro|refine R.mk ?_ ?_);all_goals intros))|fail "")
   all_goals first
    | (refine ⟨k+1,?_,?_,?_⟩;rotate_left 2;(exact ax);(exact bN);(focus (exact U)))
    | (exfalso;omega)
    | skip
 ·have ct:k=c.Queue.length:=by omega
  rw[if_neg (by omega)] at bn
  subst ct
  by_cases kf:c.Queue.length=12
  ·rw[if_pos kf] at bn
   subst bn
   (repeat' first|(refine ab ?_;((repeat' first|exact True.intro|refine R.mk ?_ ?_);all_goals intros))|fail "")
   all_goals first
    | (exact bD)
    | (exfalso;omega)
    | skip
  ·rw[if_neg kf] at bn
   subst bn
   (repeat' first|(refine cx (r:=(c.Queue++[f]).map aW) ?_ ?_ ?_ ?_ (h:=?_);(exact hU);(exact al);(exact an);(exact ao))|(refine cD (r:=(c.Queue++[f]).map aW) ?_ ?_ ?_ ?_ (h:=?_);(exact hU);(exact al);(exact an);(exact ao))|(refine cE (r:=(c.Queue++[f]).map aW) ?_ ?_ ?_ ?_ (h:=?_);(exact hU);(exact al);(exact an);(exact ao))|(refine cF (r:=(c.Queue++[f]).map aW) ?_ ?_ ?_ ?_ (h:=?_);(exact hU);(exact al);(exact an);(exact ao))|(refine ab ?_;((repeat' first|exact True.intro|refine R.mk ?_ ?_);all_goals intros))|fail "")
   all_goals first
    | (exact bD)
    | (exfalso;omega)
    | skip
theorem UY (c:a6) (f:bc) (aq:c.Queue.length<=12) :
  cU Tryz.prog 134 [.ptr 0 0 0 0,.agg (aW f)] [(0,some (.box 116 (gp c (.own 1) (.own 2)))),(1,some (.row 134 16 (c.aO.map cv))),(2,some (.row 111 7 (c.Queue.map aW)))] 3
   (.lit (.int .i64 (hG c.Queue f).2)) [(0,some (.box 116 (gp c (.own 1) (.own 3)))),(1,some (.row 134 16 (c.aO.map cv))),(3,some (.row 111 7 ((hG c.Queue f).1.map aW)))] 4:=by
 have hle:=Gk c.Queue f
 have ga:∀ i,i<c.Queue.length->bH (c.Queue.map aW) i=aW (c.Queue.getD i default):=fun i hi=>je aW hi
 generalize bn:hG c.Queue f=cN
 unfold hG at bn
 unfold gp
 refine gG ae Tryz.func134 rfl ae (by rfl) ?_
 (repeat' first|(refine ab ?_;((repeat' first|exact True.intro|refine R.mk ?_ ?_);all_goals intros))|fail "")
 refine b2 (fun k:Nat=>⟨[(0,.ptr 0 0 0 0),(3,.ptr 3 0 0 0),(11,.own 4),(12,.lit (.int .i64 c.Queue.length)),(13,.lit (.int .i64 k))],[(0,some (.box 116 (gp c (.own 1) (.own 4)))),(1,some (.row 134 16 (c.aO.map cv))),(3,some (.box 111 (aW f))),(4,some (.row 111 7 (c.Queue.map aW)))],5,Tryz.f134.ntmps⟩)
  (fun k=>k<=j6 c.Queue f) (fun k=>c.Queue.length - k) 0 (Nat.zero_le _) (by first|exact pO 2|skip) ?_
 intro k ag
 unfold gp
 by_cases aJ:k<c.Queue.length
 ·by_cases he:qO f (c.Queue.getD k default)
  ·have U:=MW aJ ag he
   rw[U,if_pos aJ] at bn
   subst bn
   obtain ⟨aH,aN,bS⟩:=he
   (repeat' first|(refine mG (r:=(c.Queue.set k f).map aW) ?_ ?_ (h:=?_);(exact hQ);(exact Ae))|(refine mH (r:=(c.Queue.set k f).map aW) ?_ ?_ (h:=?_);(exact hQ);(exact Ae))|(refine ab ?_;((repeat' first|exact True.intro|refine R.mk ?_ ?_);all_goals intros))|fail "")
   all_goals first
    | (exact fg)
    | (exfalso;omega)
    | skip
  ·have U:=MX aJ ag he
   unfold qO at he
   (repeat' first|(refine ab ?_;((repeat' first|exact True.intro|refine R.mk ?_ ?_);all_goals intros))|fail "")
   all_goals first
    | (refine ⟨k+1,?_,?_,?_⟩;rotate_left 2;(exact ax);(exact bN);(focus (exact U)))
    | (exfalso;omega)
    | skip
 ·have ct:k=c.Queue.length:=by omega
  rw[if_neg (by omega)] at bn
  subst ct
  by_cases kf:c.Queue.length=12
  ·rw[if_pos kf] at bn
   subst bn
   (repeat' first|(refine ab ?_;((repeat' first|exact True.intro|refine R.mk ?_ ?_);all_goals intros))|fail "")
   all_goals first
    | (exact fg)
    | (exfalso;omega)
    | skip
  ·rw[if_neg kf] at bn
   subst bn
   (repeat' first|(refine cx (r:=(c.Queue++[f]).map aW) ?_ ?_ ?_ ?_ (h:=?_);(exact hU);(exact al);(exact an);(exact ao))|(refine cD (r:=(c.Queue++[f]).map aW) ?_ ?_ ?_ ?_ (h:=?_);(exact hU);(exact al);(exact an);(exact ao))|(refine cE (r:=(c.Queue++[f]).map aW) ?_ ?_ ?_ ?_ (h:=?_);(exact hU);(exact al);(exact an);(exact ao))|(refine cF (r:=(c.Queue++[f]).map aW) ?_ ?_ ?_ ?_ (h:=?_);(exact hU);(exact al);(exact an);(exact ao))|(refine ab ?_;((repeat' first|exact True.intro|refine R.mk ?_ ?_);all_goals intros))|fail "")
   all_goals first
    | (exact fg)
    | (exfalso;omega)
    | skip
def QI (Gl:Bool) (now:Int):a6×Int:=if 0<=now/\now<=1099511627776 then(⟨Gl,⟨0,[],-1,[],[]⟩,⟨400,0,0,-1⟩,⟨700,0⟩,⟨700,0⟩,(if Gl=true then 4 else 0),(if Gl=true then 0 else 4),0,[],false,[],now,0,false,0⟩,0) else(default,6)
def ub (r:a6×Int):V:=.b0 [.agg (e2 r.1),.lit (.int .i64 r.2)]
def p3:dE:=⟨[],false,0,0,[],[],false,false⟩
theorem Hy (s:dE) (hw:hJ s):Fn Tryz.prog 205 [.agg (fe s)] (.agg (fe s)):=by
 have aq:=hw.1
 have kh:=hw.2.2.2.1
 have l8:=hw.2.2.2.2.2.1
 refine aU ae Tryz.func205 rfl ae ?_
 (repeat' first|(refine cx (r:=s.Data.map aC) ?_ ?_ ?_ ?_ (h:=?_);(exact aM);(exact al);(exact an);(exact ao))|(refine cD (r:=s.Data.map aC) ?_ ?_ ?_ ?_ (h:=?_);(exact aM);(exact al);(exact an);(exact ao))|(refine cE (r:=s.Data.map aC) ?_ ?_ ?_ ?_ (h:=?_);(exact aM);(exact al);(exact an);(exact ao))|(refine cF (r:=s.Data.map aC) ?_ ?_ ?_ ?_ (h:=?_);(exact aM);(exact al);(exact an);(exact ao))|(refine cx (r:=s.cp.map aD) ?_ ?_ ?_ ?_ (h:=?_);(exact aM);(exact al);(exact an);(exact ao))|(refine cD (r:=s.cp.map aD) ?_ ?_ ?_ ?_ (h:=?_);(exact aM);(exact al);(exact an);(exact ao))|(refine cE (r:=s.cp.map aD) ?_ ?_ ?_ ?_ (h:=?_);(exact aM);(exact al);(exact an);(exact ao))|(refine cF (r:=s.cp.map aD) ?_ ?_ ?_ ?_ (h:=?_);(exact aM);(exact al);(exact an);(exact ao))|(refine cx (r:=s.dF.map aD) ?_ ?_ ?_ ?_ (h:=?_);(exact aM);(exact al);(exact an);(exact ao))|(refine cD (r:=s.dF.map aD) ?_ ?_ ?_ ?_ (h:=?_);(exact aM);(exact al);(exact an);(exact ao))|(refine cE (r:=s.dF.map aD) ?_ ?_ ?_ ?_ (h:=?_);(exact aM);(exact al);(exact an);(exact ao))|(refine cF (r:=s.dF.map aD) ?_ ?_ ?_ ?_ (h:=?_);(exact aM);(exact al);(exact an);(exact ao))|(refine ab ?_;((repeat' first|exact True.intro|refine R.mk ?_ ?_);all_goals intros))|fail "")
 all_goals first
  | (exact bD)
  | skip
def o7 (s:dE) (off n:Int) (fin:Bool):Prop:=(0<=off/\off<=s.Next/\0<=n/\n<=s.Next - off)/\(fin=true->s.Fin=true/\s.Next=s.Data.length/\off+n=s.Next)
noncomputable def kS (s:dE) (off n:Int) (fin:Bool):Int:=if kM s≠0 then kM s else if yes (o7 s off n fin)=true then 0 else 13
theorem y0 (s:dE) (off n:Int) (fin:Bool):(kM s=9/\kS s off n fin=9)\/(kM s=0/\lI s/\o7 s off n fin/\kS s off n fin=0)\/(kM s=0/\lI s /\ ¬ o7 s off n fin/\kS s off n fin=13):=by
 unfold kS
 rcases su s with⟨af,bu⟩ | ⟨af,ra⟩
 ·by_cases h:o7 s off n fin
  ·exact .inr (.inl ⟨af,bu,h,by rw[if_neg (by omega),if_pos (nh h)]⟩)
  ·exact .inr (.inr ⟨af,bu,h,by rw[if_neg (by omega),if_neg (by rw[qZ h];decide)]⟩)
 ·exact .inl ⟨af,by rw[if_pos (by omega),af]⟩
def Vk:aQ:=⟨0,0⟩
theorem Vl (s:dE):Fn Tryz.prog 308 [.agg (fe s)] (.lit (.bool (s.Fin && decide (s.Next=s.Data.length)))):=by
 obtain ⟨data,f0,next,kv,lost,dK,gg,hI⟩:=s
 dsimp only[fe]
 cases f0
 all_goals simp only[Bool.false_and,Bool.true_and]
 all_goals refine aU ae Tryz.func308 rfl ae ?_
 all_goals (repeat' first|(refine ab ?_;((repeat' first|exact True.intro|refine R.mk ?_ ?_);all_goals intros))|fail "")
 all_goals first
  | (exact bD)
  | skip
theorem O4 (s:dE) (off n:Int) (fin:Bool) (hw:hJ s) (aa:aF off) (hn:aF n):Fn Tryz.prog 284 [.agg (fe s),.lit (.int .i64 off),.lit (.int .i64 n),.lit (.bool fin)]
  (.b0 [.agg (aD (if kS s off n fin=0 then⟨off,off+n - 1⟩ else Vk)),.lit (.int .i64 (kS s off n fin))]):=by
 have I:=Cn s hw
 have J:=Vl s
 clear hw
 unfold aF at aa hn
 rcases y0 s off n fin with⟨af,e⟩ | ⟨af,bu,aw,e⟩ | ⟨af,bu,aw,e⟩
 ·rw[e,if_neg (by decide)]
  rw[af] at I
  clear J
  refine aU ae Tryz.func284 rfl ae ?_
  (repeat' first|(refine ar (I) (h:=?_))|(refine au (I) (h:=?_))|(refine ab ?_;((repeat' first|exact True.intro|refine R.mk ?_ ?_);all_goals intros))|fail "")
  all_goals first
   | (exact bD)
   | skip
 ·rw[e,if_pos rfl]
  rw[af] at I
  obtain ⟨⟨f1,f2,f3,f4,f5,_,_⟩,jC,tQ⟩:=(ug s).1 bu.1.1.1
  clear af e bu
  unfold o7 at aw
  obtain ⟨data,f0,next,kv,lost,dK,gg,hI⟩:=s
  dsimp only[fe] at *
  cases f0 <;> cases gg <;> cases hI <;> cases fin
  all_goals simp only[y6,Bool.false_and,Bool.true_and,Bool.and_false,Bool.and_true,Bool.or_false,Bool.or_true,Bool.false_or,Bool.true_or,Bool.not_false,Bool.not_true,true_implies,false_implies,Bool.false_eq_true,and_true,true_and,false_and,reduceCtorEq] at jC tQ aw J
  all_goals refine aU ae Tryz.func284 rfl ae ?_
  all_goals (repeat' first|(refine ar (I) (h:=?_))|(refine au (I) (h:=?_))|(refine dM (J) (ht:=?_) (hff:=?_) <;> intro _ <;> try (exfalso;omega))|(refine dN (J) (ht:=?_) (hff:=?_) <;> intro _ <;> try (exfalso;omega))|(refine ar (J) (h:=?_))|(refine au (J) (h:=?_))|(refine ab ?_;((repeat' first|exact True.intro|refine R.mk ?_ ?_);all_goals intros))|fail "")
  all_goals first
   | (exact bD)
   | (exfalso;first|exact aw.2|omega)
   | skip
 ·rw[e,if_neg (by decide)]
  rw[af] at I
  obtain ⟨⟨f1,f2,f3,f4,f5,_,_⟩,jC,tQ⟩:=(ug s).1 bu.1.1.1
  clear af e bu
  unfold o7 at aw
  obtain ⟨data,f0,next,kv,lost,dK,gg,hI⟩:=s
  dsimp only[fe] at *
  cases f0 <;> cases gg <;> cases hI <;> cases fin
  all_goals simp only[y6,Bool.false_and,Bool.true_and,Bool.and_false,Bool.and_true,Bool.or_false,Bool.or_true,Bool.false_or,Bool.true_or,Bool.not_false,Bool.not_true,true_implies,false_implies,Bool.false_eq_true,and_true,true_and,false_and,reduceCtorEq,and_false,not_false_eq_true] at jC tQ aw J
  all_goals refine aU ae Tryz.func284 rfl ae ?_
  all_goals (repeat' first|(refine ar (I) (h:=?_))|(refine au (I) (h:=?_))|(refine dM (J) (ht:=?_) (hff:=?_) <;> intro _ <;> try (exfalso;omega))|(refine dN (J) (ht:=?_) (hff:=?_) <;> intro _ <;> try (exfalso;omega))|(refine ar (J) (h:=?_))|(refine au (J) (h:=?_))|(refine ab ?_;((repeat' first|exact True.intro|refine R.mk ?_ ?_);all_goals intros))|fail "")
  all_goals first
   | (exact bD)
   | (exfalso;omega)
   | skip
theorem O8 (s:dE) (off n:Int) (fin:Bool) (hw:bR.hJ s) (aa:aF off) (hn:aF n):Fn Tryz.prog 297 [.agg (fe s),.lit (.int .i64 off),.lit (.int .i64 n),.lit (.bool fin)]
  (.lit (.int .i64 (kS s off n fin))):=by
 have I:=CR s hw
 clear hw
 unfold aF at aa hn
 rcases y0 s off n fin with⟨af,e⟩ | ⟨af,bu,aw,e⟩ | ⟨af,bu,aw,e⟩
 ·rw[e]
  rw[af] at I
  refine aU ae Tryz.func297 rfl ae ?_
  (repeat' first|(refine ar (I) (h:=?_))|(refine au (I) (h:=?_))|(refine ab ?_;((repeat' first|exact True.intro|refine R.mk ?_ ?_);all_goals intros))|fail "")
  all_goals first
   | (exact bD)
   | skip
 ·rw[e]
  rw[af] at I
  obtain ⟨⟨f1,f2,f3,f4,f5,_,_⟩,jC,tQ⟩:=(ug s).1 bu.1.1.1
  clear af e bu jC tQ
  unfold o7 at aw
  obtain ⟨data,f0,next,kv,lost,dK,gg,hI⟩:=s
  dsimp only[fe] at *
  cases f0 <;> cases fin
  all_goals simp only[true_implies,false_implies,Bool.false_eq_true,and_true,true_and,false_and,reduceCtorEq] at aw
  all_goals refine aU ae Tryz.func297 rfl ae ?_
  all_goals (repeat' first|(refine ar (I) (h:=?_))|(refine au (I) (h:=?_))|(refine dM (cB _ _) (ht:=?_) (hff:=?_) <;> intro _ <;> try (exfalso;omega))|(refine dN (cB _ _) (ht:=?_) (hff:=?_) <;> intro _ <;> try (exfalso;omega))|(refine ab ?_;((repeat' first|exact True.intro|refine R.mk ?_ ?_);all_goals intros))|fail "")
  all_goals first
   | (exact bD)
   | (exfalso;first|exact aw.2|omega)
   | skip
 ·rw[e]
  rw[af] at I
  obtain ⟨⟨f1,f2,f3,f4,f5,_,_⟩,jC,tQ⟩:=(ug s).1 bu.1.1.1
  clear af e bu jC tQ
  unfold o7 at aw
  obtain ⟨data,f0,next,kv,lost,dK,gg,hI⟩:=s
  dsimp only[fe] at *
  cases f0 <;> cases fin
  all_goals simp only[true_implies,false_implies,Bool.false_eq_true,and_true,true_and,false_and,reduceCtorEq,and_false,not_false_eq_true] at aw
  all_goals refine aU ae Tryz.func297 rfl ae ?_
  all_goals (repeat' first|(refine ar (I) (h:=?_))|(refine au (I) (h:=?_))|(refine dM (cB _ _) (ht:=?_) (hff:=?_) <;> intro _ <;> try (exfalso;omega))|(refine dN (cB _ _) (ht:=?_) (hff:=?_) <;> intro _ <;> try (exfalso;omega))|(refine ab ?_;((repeat' first|exact True.intro|refine R.mk ?_ ?_);all_goals intros))|fail "")
  all_goals first
   | (exact bD)
   | (exfalso;omega)
   | skip
end
section
set_option maxRecDepth 100000
attribute [local irreducible] cq a8 bw GStep Fn cu bk
theorem Vm {x:aQ} (h:b9 x):fz x:=by unfold b9 at h;unfold fz aF;omega
theorem wf_set {l:List aQ} {a:Int} (h:ed a l):∀ y,y ∈ l->fz y:=fun y ai=>Vm (ji h y ai).1
def jS (l:List aQ) (r:aQ) (k:Nat):List aQ:=(l.take k).foldl e3 [r]
theorem C2 {l:List aQ} {k:Nat} (h:k<l.length) (r:aQ):jS l r (k+1)=e3 (jS l r k) (l.getD k default):=by
 unfold jS;rw[hy h,List.foldl_append];rfl
theorem sG {l:List aQ} {r:aQ} (ap:ed (-2) l) (hr:b9 r):∀ k,k<=l.length->ed (-2) (jS l r k)/\(jS l r k).length<=k+1
 | 0,_=>⟨⟨hr,by unfold b9 at hr;omega,trivial⟩,by simp[jS]⟩
 | k+1,ag=>by
  obtain ⟨I,J⟩:=sG ap hr k (by omega)
  have aj:=(ji ap _ (cY (show k<l.length by omega))).1
  rw[C2 (by omega)]
  exact⟨zN aj I,by have:=uu aj I;omega⟩
def vT (l:List aQ) (r:aQ):List aQ×Int:=if ih l r≠0 then([],ih l r) else(jS l r l.length,0)
theorem Vn {l:List aQ} {r:aQ} (ap:ed (-2) l) (hr:b9 r):sE l r=(e3 l r,0):=by
 have h:ih l r=0:=by unfold ih gH;rw[if_pos ap,if_neg (by omega),if_pos hr]
 unfold sE;rw[h,if_neg (by omega)]
def Vo (r:aQ) (s:Int×List aQ) (x:aQ):Int×List aQ:=
 if x.br<r.bs\/r.br<x.bs then s else(x.br+1,s.2++(if s.1<x.bs then[⟨s.1,x.bs - 1⟩] else[]))
def XW (l:List aQ) (r:aQ) (k:Nat):Int×List aQ:=(l.take k).foldl (Vo r) (r.bs,[])
def XX (r:aQ) (s:Int×List aQ):List aQ:=s.2++(if s.1<=r.br then[⟨s.1,r.br⟩] else[])
end
end Go.Proofs.YtendheafcbickaaGreat
