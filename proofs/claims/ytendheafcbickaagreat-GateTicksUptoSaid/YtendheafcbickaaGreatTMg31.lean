/-
  SEVERAL TEXTS IN ONE: each with its own comment.
-/
import Derived.Test.YtendheafcbickaaGreatTZip
import Derived.Test.YtendheafcbickaaGreatTGo
import Derived.Test.YtendheafcbickaaGreatTMg13
import Derived.Test.YtendheafcbickaaGreatTPckN
import Derived.Test.YtendheafcbickaaGreatTHeadE
import Derived.Test.YtendheafcbickaaGreatTMg27
import Derived.Test.YtendheafcbickaaGreatTMg28
import Derived.Test.YtendheafcbickaaGreatTFrEn
import Derived.Test.YtendheafcbickaaGreatTFrTx
import Derived.Test.YtendheafcbickaaGreatTMg12
import Derived.Test.YtendheafcbickaaGreatTMg06
import Derived.Test.YtendheafcbickaaGreatTMg09
import Derived.Test.YtendheafcbickaaGreatTMg17
import Derived.Test.YtendheafcbickaaGreatTMg11
import Derived.Test.YtendheafcbickaaGreatTMg20
import Derived.Test.YtendheafcbickaaGreatTMg18
import Derived.Test.YtendheafcbickaaGreatTMg10
import Derived.Test.YtendheafcbickaaGreatTRgsCut
import Derived.Test.YtendheafcbickaaGreatTMg23
import Derived.Test.YtendheafcbickaaGreatTMg22
set_option linter.unusedVariables false
set_option linter.unusedSimpArgs false
set_option maxHeartbeats 16000000
namespace Go.Proofs.YtendheafcbickaaGreat
section
set_option maxRecDepth 100000
attribute [local irreducible] cq a8 bw GStep Fn cu bk cU
def lk:List bc->Int
 | []=>0
 | f :: l=>if eu f≠0 then eu f else lk l
def nv (l:List bc):List UInt8:=l.flatMap ib
theorem HH (l:List bc) (f:bc):nv (l++[f])=nv l++ib f:=by unfold nv;rw[List.flatMap_append];simp
theorem O9 {l:List bc} (h:∀ f ∈ l,eu f=0):(nv l).length<=1000 * l.length:=by
 induction l with
 | nil=>exact Nat.zero_le _
 | cons f l cf=>
  have I:=sH (h f List.mem_cons_self)
  have J:=cf (fun g aj=>h g (List.mem_cons_of_mem _ aj))
  unfold nv at *
  rw[List.flatMap_cons,List.length_append,List.length_cons]
  omega
theorem Pa {l:List bc} {k:Nat} (ag:k<l.length):lk (l.drop k)=if eu (l.getD k default)≠0 then eu (l.getD k default) else lk (l.drop (k+1)):=by
 rw[drop_cons ag];rfl
def p7 (h:gy) (c:List UInt8):gy:=⟨h.Kind,h.gW,h.hk,h.ky,((ia 0 c:Nat):Int),(c.length:Int)⟩
noncomputable def nw (key:Int) (h:gy) (n dK:Int) (l:List bc):List UInt8×Int:=
 if (ma n dK).2≠0 then([],(ma n dK).2)
 else if kT (p7 h (ma n dK).1)≠0 then([],kT (p7 h (ma n dK).1))
 else if lk l≠0 then([],lk l)
 else if 400<(oA (p7 h (ma n dK).1)).length+(nv l).length+8 then([],1)
 else(oA (p7 h (ma n dK).1)++nM key n (oA (p7 h (ma n dK).1)) (nv l),0)
theorem HI {n d:Int}:(ma n d).1.length<=4:=by
 unfold ma
 split
 ·exact Nat.zero_le _
 ·split
  ·exact Nat.zero_le _
  ·dsimp only
   rw[iL]
   unfold jm
   (repeat' split) <;> omega
theorem HJ {h:gy} {c:List UInt8} (hw:mK h) (hc:c.length<=4):mK (p7 h c):=by
 obtain ⟨cy,cR,w3,ef,dU,eS⟩:=hw
 have:=C3 0 c
 have J:256 ^ c.length<=256 ^ 4:=Nat.pow_le_pow_right (by omega) hc
 have av:(256:Nat) ^ 4=4294967296:=by decide
 unfold p7 mK aF
 dsimp only
 exact⟨cy,cR,w3,ef,by omega,by omega⟩
def rj (r:List UInt8×Int):V:=.b0 [.ro (r.1.map aC),.lit (.int .i64 r.2)]
theorem HK {l:List bc} {k:Nat} {e:Int} (ag:k<l.length) (h:lk (l.drop k)=e):(eu (l.getD k default)≠0->e=eu (l.getD k default))/\(eu (l.getD k default)=0->lk (l.drop (k+1))=e):=by
 rw[Pa ag] at h
 refine ⟨fun af=>?_,fun af=>?_⟩
 ·rw[if_pos af] at h;exact h.symm
 ·rw[if_neg (by omega)] at h;exact h
theorem Pb {l:List bc} (h:lk l=0):∀ f ∈ l,eu f=0:=by
 induction l with
 | nil=>intro f hf;cases hf
 | cons g l cf=>
  simp only[lk] at h
  split at h
  ·exact absurd h ca
  ·intro f hf
   rcases List.mem_cons.1 hf with rfl|hf
   ·omega
   ·exact cf h f hf
theorem HL {l:List bc} {k:Nat} (ag:k<l.length):nv (l.take (k+1))=nv (l.take k)++ib (l.getD k default):=by rw[hy ag,HH]
theorem Pc (key:Int) (h:gy) (n dK:Int) (l:List bc) (hw:mK h) (aq:∀ f ∈ l,dC f) (fW:l.length<=1048576):Fn Tryz.prog 102 [.lit (.int .u64 key),.agg (k7 h),.lit (.int .i64 n),.lit (.int .i64 dK),.ro (l.map aW)] (rj (nw key h n dK l)):=by
 have I:=Pd n dK
 have gK:=HI (n:=n) (d:=dK)
 unfold nw rj
 unfold ul at I
 generalize ma n dK=c at *
 obtain ⟨c,ce⟩:=c
 dsimp only at *
 by_cases aS:ce=0
 ·subst aS
  rw[if_neg (by omega)]
  have kb:=HJ hw gK
  obtain ⟨K,T,F,tok,N,S⟩:=h
  unfold p7 at *
  unfold k7
  dsimp only at *
  have iO:∀ m:Nat,m<18014398509481984 -> ∀ c:Nat,c<256->ee .or .i64 (IntKind.i64.wrap ((m:Int) * 2 ^ min (8:Int).toNat IntKind.i64.bits)) (c:Int)=((m * 256+c:Nat):Int):=fun m hm c hc=>by rw[Pe m hm];exact Pf m c hc hm
  refine aU ae Tryz.func102 rfl ae ?_
  (repeat' first|(refine ar (I) (h:=?_))|(refine au (I) (h:=?_))|(refine ab ?_;((repeat' first|exact True.intro|refine R.mk ?_ ?_);all_goals intros))|fail "")
  refine b2 (fun j:Nat=>⟨[(0,.lit (.int .u64 key)),(2,.lit (.int .i64 n)),(4,.ro (l.map aW)),(6,.ptr 0 0 0 0),(36,.ro (c.map aC)),(37,.lit (.int .i64 c.length)),(38,.lit (.int .i64 j))],[(0,some (.box 138 [.lit (.int .i64 K),.lit (.int .i64 T),.lit (.int .i64 F),.ro (tok.map aC),.lit (.int .i64 ((ia 0 (c.take j):Nat):Int)),.lit (.int .i64 c.length)]))],1,Tryz.f102.ntmps⟩)
   (fun j=>j<=c.length) (fun j=>c.length - j) 0 (Nat.zero_le _) (by rw[show ia 0 (c.take 0)=0 from rfl];(exact ax)) ?_
  intro j ah
  by_cases Pg:j<c.length
  ·have hc:=(c.getD j default).toNat_lt
   have aj:=C3 0 (c.take j)
   rw[List.length_take,Nat.min_eq_left ah] at aj
   have aw:(0+1) * 256 ^ j<=1 * 256 ^ 4:=Nat.mul_le_mul (by omega) (Nat.pow_le_pow_right (by omega) (by omega))
   have gB:1 * (256:Nat) ^ 4=4294967296:=by decide
   have e:ia 0 (c.take (j+1))=ia 0 (c.take j) * 256+(c.getD j default).toNat:=by rw[hy Pg,Ph]
   have aN:=iO (ia 0 (c.take j)) (by omega) (c.getD j default).toNat (by omega)
   rw[<- e] at aN
   generalize ia 0 (c.take j)=m at *
   clear e aj aw gB
   (repeat' first|(refine ab ?_;((repeat' first|exact True.intro|refine R.mk ?_ ?_);all_goals intros))|fail "")
   all_goals (rw[aN];(refine ⟨j+1,?_,?_,?_⟩;rotate_left 2;(exact ax);(exact bN);(exact bN)))
  ·have:j=c.length:=by omega
   subst this
   rw[List.take_length]
   clear I iO
   generalize ak:(⟨K,T,F,tok,((ia 0 c:Nat):Int),(c.length:Int)⟩:gy)=H at *
   have fX:k7 H=[.lit (.int .i64 K),.lit (.int .i64 T),.lit (.int .i64 F),.ro (tok.map aC),.lit (.int .i64 ((ia 0 c:Nat):Int)),.lit (.int .i64 c.length)]:=by rw[<- ak];rfl
   by_cases hf:kT H=0
   ·rw[if_neg (by omega)]
    have g1:=Pj H kb hf
    have iP:=HM hf
    rw[fX] at g1
    generalize oA H=hb at *
    have af:=Pb (l:=l)
    have bh:lk (l.drop 0)=lk l:=rfl
    generalize ay:lk l=E at *
    (repeat' first|(refine eL [] (g1) (h:=?_))|(refine eM [] (g1) (h:=?_))|(refine kc (g1) (h:=?_))|(refine ab ?_;((repeat' first|exact True.intro|refine R.mk ?_ ?_);all_goals intros))|fail "")
    refine b2 (fun x:Nat×List UInt8=>⟨[(0,.lit (.int .u64 key)),(2,.lit (.int .i64 n)),(16,.own 1),(17,.own 2),(58,.ro (l.map aW)),(59,.lit (.int .i64 l.length)),(60,.lit (.int .i64 x.1))],[(1,some (.row 5 1 (hb.map aC))),(2,some (.row 5 1 (x.2.map aC)))],3,Tryz.f102.ntmps⟩)
     (fun x=>x.1<=l.length/\lk (l.drop x.1)=E/\x.2=nv (l.take x.1)/\x.2.length<=1000 * x.1) (fun x=>l.length - x.1) (0,[]) ⟨Nat.zero_le _,bh,rfl,Nat.zero_le _⟩ ((ic (n:=2) (t:=17) 5 1 rfl rfl rfl).trans du) ?_
    rintro ⟨k,kj⟩ ⟨ag,p8,p9,ct⟩
    dsimp only at ag p8 p9 ct ⊢
    by_cases aJ:k<l.length
    ·obtain ⟨aT,a1⟩:=HK aJ p8
     have rk:=aq _ (cY aJ)
     have vV:=HL aJ
     by_cases hff:eu (l.getD k default)=0
     ·have g2:=GS _ rk hff
      have g3:=sH hff
      have a1:=a1 hff
      rw[<- p9] at vV
      generalize ib (l.getD k default)=oB at *
      have lJ:(kj++oB).length<=1000 * (k+1):=by rw[List.length_append];omega
      (repeat' first|(refine ar (g2) (h:=?_))|(refine au (g2) (h:=?_))|(refine cx (r:=(kj++oB).map aC) ?_ ?_ ?_ ?_ (h:=?_);(exact nW);(exact al);(exact an);(exact ao))|(refine cD (r:=(kj++oB).map aC) ?_ ?_ ?_ ?_ (h:=?_);(exact nW);(exact al);(exact an);(exact ao))|(refine cE (r:=(kj++oB).map aC) ?_ ?_ ?_ ?_ (h:=?_);(exact nW);(exact al);(exact an);(exact ao))|(refine cF (r:=(kj++oB).map aC) ?_ ?_ ?_ ?_ (h:=?_);(exact nW);(exact al);(exact an);(exact ao))|(refine ab ?_;((repeat' first|exact True.intro|refine R.mk ?_ ?_);all_goals intros))|fail "")
      all_goals first
       | (refine ⟨(k+1,kj++oB),?_,?_,?_⟩;rotate_left 2;(exact ax);(exact bV);(focus (exact⟨aJ,a1,vV.symm,lJ⟩)))
       | skip
     ·have g2:=NH _ rk hff
      have aT:=aT hff
      rw[<- aT] at g2 hff
      rw[if_pos hff]
      (repeat' first|(refine ar (g2) (h:=?_))|(refine au (g2) (h:=?_))|(refine ab ?_;((repeat' first|exact True.intro|refine R.mk ?_ ?_);all_goals intros))|fail "")
      all_goals first
       | (exact bD)
       | skip
    ·have vW:k=l.length:=by omega
     subst vW
     rw[List.drop_length] at p8
     have C4:E=0:=p8.symm
     subst C4
     rw[if_neg (by omega)]
     rw[List.take_length] at p9
     rw[<- p9]
     have g3:=Pk key n hb kj (by omega) (by omega)
     have g4:(nM key n hb kj).length=kj.length+8:=by unfold nM;rw[List.length_append,vt,vv]
     generalize nM key n hb kj=o8 at *
     have ij:(hb++o8).length=hb.length+kj.length+8:=by rw[List.length_append];omega
     by_cases ap:400<hb.length+kj.length+8
     ·rw[if_pos ap]
      (repeat' first|refine HN g3 (h:=?_)|(refine cx (r:=(hb++o8).map aC) ?_ ?_ ?_ ?_ (h:=?_);(exact nW);(exact al);(exact an);(exact ao))|(refine cD (r:=(hb++o8).map aC) ?_ ?_ ?_ ?_ (h:=?_);(exact nW);(exact al);(exact an);(exact ao))|(refine cE (r:=(hb++o8).map aC) ?_ ?_ ?_ ?_ (h:=?_);(exact nW);(exact al);(exact an);(exact ao))|(refine cF (r:=(hb++o8).map aC) ?_ ?_ ?_ ?_ (h:=?_);(exact nW);(exact al);(exact an);(exact ao))|(refine ab ?_;((repeat' first|exact True.intro|refine R.mk ?_ ?_);all_goals intros))|fail "")
      all_goals first
       | (exact bD)
       | skip
     ·rw[if_neg ap]
      (repeat' first|refine HN g3 (h:=?_)|(refine cx (r:=(hb++o8).map aC) ?_ ?_ ?_ ?_ (h:=?_);(exact nW);(exact al);(exact an);(exact ao))|(refine cD (r:=(hb++o8).map aC) ?_ ?_ ?_ ?_ (h:=?_);(exact nW);(exact al);(exact an);(exact ao))|(refine cE (r:=(hb++o8).map aC) ?_ ?_ ?_ ?_ (h:=?_);(exact nW);(exact al);(exact an);(exact ao))|(refine cF (r:=(hb++o8).map aC) ?_ ?_ ?_ ?_ (h:=?_);(exact nW);(exact al);(exact an);(exact ao))|(refine ab ?_;((repeat' first|exact True.intro|refine R.mk ?_ ?_);all_goals intros))|fail "")
      all_goals first
       | (exact bD)
       | skip
   ·rw[if_pos hf]
    have g1:=Pl H kb hf
    rw[fX] at g1
    generalize kT H=e at *
    (repeat' first|(refine ar (g1) (h:=?_))|(refine au (g1) (h:=?_))|(refine ab ?_;((repeat' first|exact True.intro|refine R.mk ?_ ?_);all_goals intros))|fail "")
    all_goals first
     | (exact bD)
     | skip
 ·rw[if_pos aS]
  refine aU ae Tryz.func102 rfl ae ?_
  (repeat' first|(refine ar (I) (h:=?_))|(refine au (I) (h:=?_))|(refine ab ?_;((repeat' first|exact True.intro|refine R.mk ?_ ?_);all_goals intros))|fail "")
  all_goals first
   | (exact bD)
   | skip
def o9 (p:fM) (n:Int):fM×Bool×Int:=
 if kk p [n]≠0 then(⟨0,0,0,0⟩,false,kk p [n])
 else if p.cK - p.dW<n then(p,false,0)
 else(⟨p.cK,p.eE,p.dW+n,p.Since⟩,true,0)
def um (r:fM×Bool×Int):V:=.b0 [.agg (nr r.1),.lit (.bool r.2.1),.lit (.int .i64 r.2.2)]
theorem Pm (p:fM) (n:Int):Fn Tryz.prog 210 [.agg (nr p),.lit (.int .i64 n)] (um (o9 p n)):=by
 have I:=HO p [n] (by simp)
 unfold o9 um
 by_cases af:kk p [n]=0
 ·obtain ⟨aa,aq⟩:=ua af
  rw[af] at I ⊢
  rw[if_neg (by omega)]
  unfold lE at aa
  have bj:=aq n (by simp)
  unfold lD at bj
  refine aU ae Tryz.func210 rfl ae ?_
  (repeat' first|(refine ar (I) (h:=?_))|(refine au (I) (h:=?_))|(refine ab ?_;((repeat' first|exact True.intro|refine R.mk ?_ ?_);all_goals intros))|fail "")
  all_goals (refine bt (hr:=?_))
  all_goals first
   | (rw[if_pos (by omega)];rfl)
   | (rw[if_neg (by omega)];rfl)
   | skip
 ·rw[if_pos af]
  generalize kk p [n]=e at *
  refine aU ae Tryz.func210 rfl ae ?_
  (repeat' first|(refine ar (I) (h:=?_))|(refine au (I) (h:=?_))|(refine ab ?_;((repeat' first|exact True.intro|refine R.mk ?_ ?_);all_goals intros))|fail "")
  all_goals (refine bt (hr:=?_);rfl)
theorem Pn (p:fM) (hw:hE p) (n:Int):Fn Tryz.prog 223 [.agg (nr p),.lit (.int .i64 n)] (um (o9 p n)):=by
 have I:=HP p hw [n] (by simp)
 unfold o9 um
 by_cases af:kk p [n]=0
 ·obtain ⟨aa,aq⟩:=ua af
  rw[af] at I ⊢
  rw[if_neg (by omega)]
  unfold lE at aa
  have bj:=aq n (by simp)
  unfold lD at bj
  refine aU ae Tryz.func223 rfl ae ?_
  (repeat' first|(refine ar (I) (h:=?_))|(refine au (I) (h:=?_))|(refine ab ?_;((repeat' first|exact True.intro|refine R.mk ?_ ?_);all_goals intros))|fail "")
  all_goals (refine bt (hr:=?_))
  all_goals first
   | (rw[if_pos (by omega)];rfl)
   | (rw[if_neg (by omega)];rfl)
   | skip
 ·rw[if_pos af]
  generalize kk p [n]=e at *
  refine aU ae Tryz.func223 rfl ae ?_
  (repeat' first|(refine ar (I) (h:=?_))|(refine au (I) (h:=?_))|(refine ab ?_;((repeat' first|exact True.intro|refine R.mk ?_ ?_);all_goals intros))|fail "")
  all_goals (refine bt (hr:=?_);rfl)
theorem Po (f:iB) (n:Int) (h:h4 f) (af:0<=n) (I:n<=f.Max - f.cm):Fn Tryz.prog 248 [.agg (ue f),.lit (.int .i64 n)] (.b0 [.agg (ue ⟨f.Max,f.cm+n⟩),.lit (.int .i64 0)]):=by
 have hc:=Cm f
 rw[C5 h] at hc
 unfold h4 at h
 refine aU ae Tryz.func248 rfl ae ?_
 (repeat' first|(refine ar (hc) (h:=?_))|(refine au (hc) (h:=?_))|(refine ab ?_;((repeat' first|exact True.intro|refine R.mk ?_ ?_);all_goals intros))|fail "")
 all_goals first
  | (exact bD)
  | skip
def eP (l:List bc):Int:=24+((nv l).length:Int)
theorem HQ (l:List bc) (f:bc):eP (l++[f])=eP l+((ib f).length:Int):=by
 unfold eP;rw[HH,List.length_append];omega
theorem Pp (f:bc):eP [f]=24+((ib f).length:Int):=by
 have:=HQ [] f
 rw[List.nil_append] at this
 rw[this];unfold eP nv;simp
theorem uo {l:List bc} (h:∀ f ∈ l,eu f=0):24<=eP l/\eP l<=24+1000 * (l.length:Int):=by
 have:=O9 h
 unfold eP;omega
theorem HR {l:List bc} {k:Nat} (ag:k<l.length):eP (l.take (k+1))=eP (l.take k)+((ib (l.getD k default)).length:Int):=by rw[hy ag,HQ]
theorem zu (l:List bc) (hw:∀ f ∈ l,dC f) (af:∀ f ∈ l,eu f=0) (aq:l.length<=1000000):Fn Tryz.prog 208 [.ro (l.map aW)] (.lit (.int .i64 (eP l))):=by
 refine aU ae Tryz.func208 rfl ae ?_
 (repeat' first|(refine ab ?_;((repeat' first|exact True.intro|refine R.mk ?_ ?_);all_goals intros))|fail "")
 refine b2 (fun k:Nat=>⟨[(3,.lit (.int .i64 (eP (l.take k)))),(8,.ro (l.map aW)),(9,.lit (.int .i64 l.length)),(10,.lit (.int .i64 k))],[],0,Tryz.f208.ntmps⟩)
  (fun k=>k<=l.length) (fun k=>l.length - k) 0 (Nat.zero_le _) gf ?_
 intro k ag
 by_cases aJ:k<l.length
 ·have hm:=cY aJ
  have bh:=af _ hm
  have I:=GS (l.getD k default) (hw _ hm) bh
  have hb:=sH bh
  have ap:=HR aJ
  have nk:=uo (l:=l.take k) (fun f hf=>af f (List.mem_of_mem_take hf))
  rw[List.length_take] at nk
  generalize eP (l.take k)=a at *
  (repeat' first|(refine ar (I) (h:=?_))|(refine au (I) (h:=?_))|(refine ab ?_;((repeat' first|exact True.intro|refine R.mk ?_ ?_);all_goals intros))|fail "")
  all_goals first
   | (refine ⟨k+1,?_,?_,?_⟩;rotate_left 2;(exact ax);(exact bN);(exact gI))
   | skip
 ·have ct:k=l.length:=by omega
  subst ct
  rw[List.take_length]
  (repeat' first|(refine ab ?_;((repeat' first|exact True.intro|refine R.mk ?_ ?_);all_goals intros))|fail "")
  all_goals first
   | (exact bD)
   | skip
theorem C6 (l:List bc) (af:∀ f ∈ l,eu f=0) (aq:l.length<=1000000):Fn Tryz.prog 220 [.ro (l.map aW)] (.lit (.int .i64 (eP l))):=by
 refine aU ae Tryz.func220 rfl ae ?_
 (repeat' first|(refine ab ?_;((repeat' first|exact True.intro|refine R.mk ?_ ?_);all_goals intros))|fail "")
 refine b2 (fun k:Nat=>⟨[(3,.lit (.int .i64 (eP (l.take k)))),(6,.ro (l.map aW)),(7,.lit (.int .i64 l.length)),(8,.lit (.int .i64 k))],[],0,Tryz.f220.ntmps⟩)
  (fun k=>k<=l.length) (fun k=>l.length - k) 0 (Nat.zero_le _) gf ?_
 intro k ag
 by_cases aJ:k<l.length
 ·have hm:=cY aJ
  have bh:=af _ hm
  have I:=C7 (l.getD k default) bh
  have hb:=sH bh
  have ap:=HR aJ
  have nk:=uo (l:=l.take k) (fun f hf=>af f (List.mem_of_mem_take hf))
  rw[List.length_take] at nk
  generalize eP (l.take k)=a at *
  (repeat' first|(refine ar (I) (h:=?_))|(refine au (I) (h:=?_))|(refine ab ?_;((repeat' first|exact True.intro|refine R.mk ?_ ?_);all_goals intros))|fail "")
  all_goals first
   | (refine ⟨k+1,?_,?_,?_⟩;rotate_left 2;(exact ax);(exact bN);(exact gI))
   | skip
 ·have ct:k=l.length:=by omega
  subst ct
  rw[List.take_length]
  (repeat' first|(refine ab ?_;((repeat' first|exact True.intro|refine R.mk ?_ ?_);all_goals intros))|fail "")
  all_goals first
   | (exact bD)
   | skip
end
section
set_option maxRecDepth 100000
attribute [local irreducible] cq a8 bw GStep Fn cu bk
def Pq (s:dE):Prop:=s.Over=true/\(s.Data.length=0\/s.dF=[aQ.mk 0 ((s.Data.length:Int) - 1)])
noncomputable def Pr (s:dE):Bool:=yes (lI s/\Pq s)
end
section
set_option maxRecDepth 100000
attribute [local irreducible] cq a8 bw GStep Fn cu bk cU
def Ps (n:Int) (r:aQ):Bool:=decide (r.bs<=n) && decide (n<=r.br)
def vX (l:List aQ) (n:Int):Bool:=l.any (Ps n)
def C8 (HS:Int):List aQ->Int
 | []=>0
 | r :: l=>if r.bs<0\/r.br<r.bs then 3 else if HS<=r.br then 13 else C8 HS l
def Pt (l:List aQ) (t:Int) (k:Nat):Int:=(l.take k).foldl (fun t r=>max t r.br) t
def Pu (s:c8) (l:List aQ):List eN:=s.az.filter (fun p=>vX l p.Number)
def HT (s:c8) (l:List aQ):List eN:=s.az.filter (fun p=>!vX l p.Number)
def C9 (s:c8) (l:List aQ):Int:=Pt l s.dn l.length
def WZ (e:Int):V:=.b0 [.agg (gC ⟨0,[],0,[],[]⟩),.ro [],.ro [],.lit (.int .i64 e)]
noncomputable def qa (s:c8) (l:List aQ):c8×List eN×List eN×Int:=
 if hZ s≠0 then(⟨0,[],0,[],[]⟩,[],[],hZ s) else if C8 s.Next l≠0 then(⟨0,[],0,[],[]⟩,[],[],C8 s.Next l)
 else if s.b7.any (vX l)=true then(⟨0,[],0,[],[]⟩,[],[],13)
 else(⟨s.Next,(HT s l).filter (fun p=>!decide (p.Number<=C9 s l - 3)),C9 s l,s.cg,s.b7⟩,Pu s l,(HT s l).filter (fun p=>decide (p.Number<=C9 s l - 3)),0)
def W0 (r:c8×List eN×List eN×Int):V:=.b0 [.agg (gC r.1),.ro (r.2.1.map bY),.ro (r.2.2.1.map bY),.lit (.int .i64 r.2.2.2)]
noncomputable def HU (l:List aQ) (n:Int):List aQ×Bool×Int:=
 if ih l ⟨n,n⟩≠0 then([],false,ih l ⟨n,n⟩) else((hL l ⟨n,n⟩).drop ((hL l ⟨n,n⟩).length - 6),!(yes (gX l n)),0)
def HV:c8:=⟨0,[],0,[],[]⟩
noncomputable def zv (s:c8) (n:Int):c8×Bool×Int:=
 if hZ s≠0 then(HV,false,hZ s) else if ¬ (0<=n/\n<=4611686018427387903) then(HV,false,6)
 else if s.cg.length=6/\n<(s.cg.getD 0 default).bs then(s,false,0)
 else(⟨s.Next,s.az,s.dn,(HU s.cg n).1,s.b7⟩,(HU s.cg n).2.1,0)
def W1 (r:c8×Bool×Int):V:=.b0 [.agg (gC r.1),.lit (.bool r.2.1),.lit (.int .i64 r.2.2)]
end
section
set_option maxRecDepth 100000
def rl (f:iB) (n:Int):iB×Int:=if h4 f then(if n<0 then(⟨0,0⟩,6) else if f.Max - f.cm<n then(⟨0,0⟩,11) else(⟨f.Max,f.cm+n⟩,0)) else(⟨0,0⟩,9)
def Da (f:iB) (n:Int):iB×Int:=if h4 f then(if n<0\/4611686018427387903<n then(⟨0,0⟩,6) else(⟨max f.Max n,f.cm⟩,0)) else(⟨0,0⟩,9)
def Pv (p:fM) (n s:Int):fM×Int:=
 if kk p [n,s]≠0 then(⟨0,0,0,0⟩,kk p [n,s])
 else if p.dW<n then(⟨0,0,0,0⟩,13)
 else if s<=p.Since then(⟨p.cK,p.eE,p.dW - n,p.Since⟩,0)
 else(⟨min (if p.eE=0\/p.cK<p.eE then p.cK+n else p.cK+100 * n / p.cK) 1099511627776,p.eE,p.dW - n,p.Since⟩,0)
def HW:Nat->a6->Int->a6×Int
 | 0,c,id=>(c,if c.gJ<=id then 8 else 0)
 | n+1,c,id=>if c.gJ<=id then HW n (HX c) id else(c,0)
def rm (c:a6) (id:Int):a6×Int:=
 if c.Client=true then(c,if c.gJ<=id then 5 else 0) else if c.kK<=id then(c,11) else HW (4 - c.aO.length) c id
def vY (c:a6) (f:iB):a6:={ c with fL:=f }
def e5 (c:a6) (n:Nat):dV:=c.aO.getD n default
def Pw (c:a6) (n:Nat) (f:bc):a6×Int:=
 if (e5 c n).Cut=true then(c,0)
 else if (pa (e5 c n).In f.bI f.Data f.Fin).2≠0 then(c,(pa (e5 c n).In f.bI f.Data f.Fin).2)
 else if (rl c.fL (mM (pa (e5 c n).In f.bI f.Data f.Fin).1 - mM (e5 c n).In)).2≠0 then(c,(rl c.fL (mM (pa (e5 c n).In f.bI f.Data f.Fin).1 - mM (e5 c n).In)).2)
 else if 800<((e5 c n).Read++(zw (pa (e5 c n).In f.bI f.Data f.Fin).1).2.1).length then(vY c (rl c.fL (mM (pa (e5 c n).In f.bI f.Data f.Fin).1 - mM (e5 c n).In)).1,1)
 else(nx (vY c (rl c.fL (mM (pa (e5 c n).In f.bI f.Data f.Fin).1 - mM (e5 c n).In)).1) n { e5 c n with In:=(zw (pa (e5 c n).In f.bI f.Data f.Fin).1).1,Read:=(e5 c n).Read++(zw (pa (e5 c n).In f.bI f.Data f.Fin).1).2.1,Over:=(zw (pa (e5 c n).In f.bI f.Data f.Fin).1).2.2.1 },0)
def Px (c:a6) (n:Int):a6:={ c with kL:=n }
def Py (c:a6) (n:Nat) (f:bc):a6×Int:=
 if (e5 c n).Cut=true then(c,0)
 else if f.bI<mM (e5 c n).In\/(0<=(e5 c n).In.ig/\(e5 c n).In.ig≠f.bI) then(c,12)
 else if (e5 c n).In.cK<f.bI then(c,11)
 else if (rl c.fL (f.bI - mM (e5 c n).In)).2≠0 then(c,(rl c.fL (f.bI - mM (e5 c n).In)).2)
 else if c.kL=4 then(vY c (rl c.fL (f.bI - mM (e5 c n).In)).1,8)
 else(nx (Px (vY c (rl c.fL (f.bI - mM (e5 c n).In)).1) (c.kL+1)) n { e5 c n with Cut:=true,Over:=true,In:=⟨f.bI,[],f.bI,(e5 c n).In.cK⟩ },0)
def HY (id off code:Int):bc:=⟨4,id,off,false,code,[],[]⟩
def Pz (s:dE):dE:=⟨List.replicate s.Next.toNat 0,true,s.Next,max s.Max s.Next,[],if 0<s.Next then[⟨0,s.Next - 1⟩] else[],false,true⟩
noncomputable def PA (c:a6) (n:Nat) (f:bc):a6×Int:=
 if Pr (e5 c n).Out=true then(c,0)
 else(lf (nx c n { e5 c n with Out:=Pz (e5 c n).Out }) (hG c.Queue (HY f.Id (e5 c n).Out.Next f.Code)).1,(hG c.Queue (HY f.Id (e5 c n).Out.Next f.Code)).2)
noncomputable def PB (c:a6) (n:Nat) (f:bc):a6×Int:=
 if (Db (e5 c n).Out f.bI).2=0 then(nx c n { e5 c n with Out:=(Db (e5 c n).Out f.bI).1 },0) else(c,(Db (e5 c n).Out f.bI).2)
noncomputable def zx (g:a6->Nat->bc->a6×Int) (c:a6) (f:bc):a6×Int:=
 if (rm c f.Id).2=0 then(if eb (rm c f.Id).1.aO f.Id<(rm c f.Id).1.aO.length then g (rm c f.Id).1 (eb (rm c f.Id).1.aO f.Id) f else((rm c f.Id).1,0)) else((rm c f.Id).1,(rm c f.Id).2)
noncomputable def Dc (c:a6) (x:bc):a6×Int:=
 if x.Kind=8/\eb c.aO x.Id<c.aO.length then(if (CW (l4 c x.Id).Out x.bI x.Data.length x.Fin).2=0 then(nx c (eb c.aO x.Id) { l4 c x.Id with Out:=(CW (l4 c x.Id).Out x.bI x.Data.length x.Fin).1 },0) else(c,(CW (l4 c x.Id).Out x.bI x.Data.length x.Fin).2)) else(c,0)
noncomputable def zy:a6->List bc->a6×Int
 | c,[]=>(c,0)
 | c,f :: l=>if (Dc c f).2=0 then zy (Dc c f).1 l else Dc c f
def Dd (c:a6) (p:eN):fM:=(Pv c.e8 (min p.fm c.e8.dW) p.Time).1
noncomputable def zz:a6->List eN->a6×Int
 | c,[]=>(c,0)
 | c,p :: l=>if (zy (nR c (Dd c p)) p.Frames).2=0 then zz (zy (nR c (Dd c p)) p.Frames).1 l else zy (nR c (Dd c p)) p.Frames
noncomputable def PC (c:a6) (f:bc) (now:Int):a6×Int:=
 if (qa c.bf f.bi).2.2.2=0 then(if (zz (ie c (qa c.bf f.bi).1) (qa c.bf f.bi).2.1).2=0 then h1 now (zz (ie c (qa c.bf f.bi).1) (qa c.bf f.bi).2.1).1 (qa c.bf f.bi).2.2.1 else zz (ie c (qa c.bf f.bi).1) (qa c.bf f.bi).2.1) else(c,(qa c.bf f.bi).2.2.2)
def PD (c:a6) (f:iB):a6:={ c with fQ:=f }
def PE (c:a6) (n:Int):a6:={ c with ks:=n }
def PF (c:a6) (code:Int):a6:={ c with iz:=true,Code:=code,Queue:=[],aO:=[],ke:=false }
def HZ (code:Int):bc:=⟨27,0,0,false,code,[],[]⟩
noncomputable def zA (c:a6) (f:bc) (now:Int):a6×Int:=
 if f.Kind=2 then PC c f now
 else if f.Kind=8 then zx Pw c f
 else if f.Kind=4 then zx Py c f
 else if f.Kind=5 then zx PA c f
 else if f.Kind=16 then(PD c (Da c.fQ f.bI).1,(Da c.fQ f.bI).2)
 else if f.Kind=17 then zx PB c f
 else if f.Kind=18 then(if c.Client=true then PE c (max c.ks f.bI) else c,0)
 else if f.Kind=26 then(lf c (hG c.Queue (HZ f.Code)).1,(hG c.Queue (HZ f.Code)).2)
 else if f.Kind=28 then(PF c f.Code,0)
 else(c,0)
def H0 (id off:Int):bc:=⟨17,id,off,false,0,[],[]⟩
def De (g:fE):fE:=(PG g (min (g.fN+300) 4611686018427387903)).1
noncomputable def Df (c:a6) (n:Nat):a6×Int:=
 if (e5 c n).Over=false/\(e5 c n).In.cK - (e5 c n).In.fN<150 then
  (lf (nx c n { e5 c n with In:=De (e5 c n).In }) (hG c.Queue (H0 (e5 c n).Id (De (e5 c n).In).cK)).1,(hG c.Queue (H0 (e5 c n).Id (De (e5 c n).In).cK)).2)
 else(c,0)
noncomputable def nX:Nat->Nat->a6->a6×Int
 | 0,_,c=>(c,0)
 | m+1,k,c=>if (Df c k).2=0 then nX m (k+1) (Df c k).1 else Df c k
def H2 (off:Int):bc:=⟨16,0,off,false,0,[],[]⟩
def Dg (f:iB):iB:=(Da f (min (f.cm+700) 4611686018427387903)).1
noncomputable def zB (c:a6):a6×Int:=
  if (nX c.aO.length 0 c).2=0 then
    (if (nX c.aO.length 0 c).1.fL.Max - (nX c.aO.length 0 c).1.fL.cm<350 then
      (lf (vY (nX c.aO.length 0 c).1 (Dg (nX c.aO.length 0 c).1.fL)) (hG (nX c.aO.length 0 c).1.Queue (H2 (Dg (nX c.aO.length 0 c).1.fL).Max)).1,(hG (nX c.aO.length 0 c).1.Queue (H2 (Dg (nX c.aO.length 0 c).1.fL).Max)).2)
     else((nX c.aO.length 0 c).1,0))
  else nX c.aO.length 0 c
def zC (c:a6) (b:Bool):a6:={ c with ke:=b }
def zD (k:Int):Bool:=decide (k≠2) && (decide (k≠0) && decide (k≠28))
noncomputable def pb (now:Int):a6->List bc->a6×Int
 | c,[]=>(c,0)
 | c,f :: l=>if (zA (zC c (c.ke || zD f.Kind)) f now).2=0/\(zA (zC c (c.ke || zD f.Kind)) f now).1.iz=false then pb now (zA (zC c (c.ke || zD f.Kind)) f now).1 l else zA (zC c (c.ke || zD f.Kind)) f now
def PH (c:a6) (n:Int):a6:={ c with jO:=n }
noncomputable def Dh:List bc->Int
 | []=>0
 | f :: l=>if eu f=0 then Dh l else eu f
noncomputable def PI (c:a6) (now:Int) (l:List bc):a6:=
 if (pb now c l).2=0 then(if (pb now c l).1.iz=true then(pb now c l).1 else if (zB (pb now c l).1).2=0 then(zB (pb now c l).1).1 else kN (zB (pb now c l).1).1 (zB (pb now c l).1).2) else kN (pb now c l).1 (pb now c l).2
noncomputable def W2 (c:a6) (now number:Int) (l:List bc):a6×Bool×Int:=
 if l0 c=0 then(if 0<=now/\now<=1099511627776/\l.length<=12 then(if Dh l=0 then(if c.iz=true then(default,false,17)
  else if (zv c.bf number).2.2≠0 then(default,false,(zv c.bf number).2.2)
  else if (zv c.bf number).2.1=false then(c,false,0)
  else(PI (PH (ie c (zv c.bf number).1) (max now c.jO)) (max now c.jO) l,true,0))
  else(default,false,Dh l)) else(default,false,6)) else(default,false,9)
end
end Go.Proofs.YtendheafcbickaaGreat
