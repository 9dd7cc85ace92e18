/-
  SEVERAL TEXTS IN ONE: each with its own comment.
-/
import Derived.Test.YtendheafcbickaaGreatTZip
import Derived.Test.YtendheafcbickaaGreatTGo
import Derived.Test.YtendheafcbickaaGreatTMg31
import Derived.Test.YtendheafcbickaaGreatTMg27
import Derived.Test.YtendheafcbickaaGreatTMg17
import Derived.Test.YtendheafcbickaaGreatTMg13
import Derived.Test.YtendheafcbickaaGreatTFlI
import Derived.Test.YtendheafcbickaaGreatTGtC
import Derived.Test.YtendheafcbickaaGreatTMg33
import Derived.Test.YtendheafcbickaaGreatTMg12
set_option linter.unusedVariables false
set_option linter.unusedSimpArgs false
set_option maxHeartbeats 16000000
namespace Go.Proofs.YtendheafcbickaaGreat
section
set_option maxRecDepth 100000
attribute [local irreducible] cq a8 bw GStep Fn cu bk cU
theorem QC {n:Nat} (h:n<9223372036854775808):IntKind.i64.wrap (n:Int)=(n:Int):=by rw[IntKind.wrap_i64];omega
theorem QD (key:Int) (h:gy) (n dK:Int) (l:List bc) (hw:mK h) (hn:aF n) (bj:aF dK) (aq:∀ f ∈ l,dC f) (fW:l.length<=1048576):Fn Tryz.prog 109 [.lit (.int .u64 key),.agg (k7 h),.lit (.int .i64 n),.lit (.int .i64 dK),.ro (l.map aW)] (rj (nw key h n dK l)):=by
 have I:=QE n dK hn bj
 have gK:=HI (n:=n) (d:=dK)
 unfold nw rj
 unfold ul at I
 generalize ma n dK=c at *
 obtain ⟨c,ce⟩:=c
 dsimp only at *
 by_cases aS:ce=0
 ·subst aS
  rw[if_neg (by omega)]
  have kb:=HJ hw gK
  have J:=Nn c (by omega)
  have aj:=C3 0 c
  have aw:(0+1) * 256 ^ c.length<=1 * 256 ^ 4:=Nat.mul_le_mul (by omega) (Nat.pow_le_pow_right (by omega) (by omega))
  have gB:1 * (256:Nat) ^ 4=4294967296:=by decide
  obtain ⟨K,T,F,tok,N,S⟩:=h
  unfold p7 at *
  unfold k7
  dsimp only at *
  generalize ak:(⟨K,T,F,tok,((ia 0 c:Nat):Int),(c.length:Int)⟩:gy)=H at *
  have fX:k7 H=[.lit (.int .i64 K),.lit (.int .i64 T),.lit (.int .i64 F),.ro (tok.map aC),.lit (.int .i64 ((ia 0 c:Nat):Int)),.lit (.int .i64 c.length)]:=by rw[<- ak];rfl
  have av:=Qt H kb
  rw[fX] at av
  have oJ:=QC (n:=ia 0 c) (by omega)
  generalize ia 0 c=m at *
  clear aw gB
  by_cases hf:kT H=0
  ·rw[if_neg (by omega)]
   rw[hf] at av
   have bl:=QF H hf
   rw[fX] at bl
   have iP:=HM hf
   generalize oA H=hb at *
   have bh:lk (l.drop 0)=lk l:=rfl
   generalize ay:lk l=E at *
   refine aU ae Tryz.func109 rfl ae ?_
   (repeat' first|(refine ar (I) (h:=?_))|(refine au (I) (h:=?_))|(refine ar (J) (h:=?_))|(refine au (J) (h:=?_))|(refine ab ?_;((repeat' first|exact True.intro|refine R.mk ?_ ?_);all_goals intros))|fail "")
   rw[oJ]
   (repeat' first|(refine ar (av) (h:=?_))|(refine au (av) (h:=?_))|(refine ab ?_;((repeat' first|exact True.intro|refine R.mk ?_ ?_);all_goals intros))|fail "")
   refine b2 (fun x:Nat×List UInt8=>⟨[(0,.lit (.int .u64 key)),(2,.lit (.int .i64 n)),(6,.ptr 0 0 0 0),(15,.lit (.string (bZ x.2))),(42,.ro (l.map aW)),(43,.lit (.int .i64 l.length)),(44,.lit (.int .i64 x.1))],[(0,some (.box 138 [.lit (.int .i64 K),.lit (.int .i64 T),.lit (.int .i64 F),.ro (tok.map aC),.lit (.int .i64 (m:Int)),.lit (.int .i64 c.length)]))],1,Tryz.f109.ntmps⟩)
    (fun x=>x.1<=l.length/\lk (l.drop x.1)=E/\x.2=nv (l.take x.1)/\x.2.length<=1000 * x.1) (fun x=>l.length - x.1) (0,[]) ⟨Nat.zero_le _,bh,rfl,Nat.zero_le _⟩ du ?_
   rintro ⟨k,kj⟩ ⟨ag,p8,p9,ct⟩
   dsimp only at ag p8 p9 ct ⊢
   by_cases aJ:k<l.length
   ·obtain ⟨aT,a1⟩:=HK aJ p8
    have rk:=aq _ (cY aJ)
    have vV:=HL aJ
    have g1:=Hv _ rk
    by_cases hff:eu (l.getD k default)=0
    ·have g2:=C7 _ hff
     have g3:=sH hff
     have a1:=a1 hff
     rw[hff] at g1
     rw[<- p9] at vV
     generalize ib (l.getD k default)=oB at *
     have lJ:(kj++oB).length<=1000 * (k+1):=by rw[List.length_append];omega
     (repeat' first|(refine ar (g1) (h:=?_))|(refine au (g1) (h:=?_))|(refine ar (g2) (h:=?_))|(refine au (g2) (h:=?_))|(refine ab ?_;((repeat' first|exact True.intro|refine R.mk ?_ ?_);all_goals intros))|fail "")
     all_goals first
      | (refine ⟨(k+1,kj++oB),?_,?_,?_⟩;rotate_left 2;(exact ax);(exact bV);(focus (exact⟨aJ,a1,vV.symm,lJ⟩)))
      | skip
    ·have aT:=aT hff
     rw[<- aT] at g1 hff
     rw[if_pos hff]
     (repeat' first|(refine ar (g1) (h:=?_))|(refine au (g1) (h:=?_))|(refine ab ?_;((repeat' first|exact True.intro|refine R.mk ?_ ?_);all_goals intros))|fail "")
     all_goals first
      | (exact bD)
      | skip
   ·have vW:k=l.length:=by omega
    subst vW
    rw[List.drop_length] at p8
    have C4:E=0:=p8.symm
    subst C4
    rw[if_neg (by omega)]
    rw[List.take_length] at p9
    rw[<- p9]
    have g3:=QG key n hb kj (by omega) (by omega)
    have g4:(nM key n hb kj).length=kj.length+8:=by unfold nM;rw[List.length_append,vt,vv]
    generalize nM key n hb kj=o8 at *
    by_cases ap:400<hb.length+kj.length+8
    ·rw[if_pos ap]
     (repeat' first|(refine ar (bl) (h:=?_))|(refine au (bl) (h:=?_))|(refine ar (g3) (h:=?_))|(refine au (g3) (h:=?_))|(refine ab ?_;((repeat' first|exact True.intro|refine R.mk ?_ ?_);all_goals intros))|fail "")
     all_goals first
      | (exact bD)
      | skip
    ·rw[if_neg ap]
     (repeat' first|(refine ar (bl) (h:=?_))|(refine au (bl) (h:=?_))|(refine ar (g3) (h:=?_))|(refine au (g3) (h:=?_))|(refine ab ?_;((repeat' first|exact True.intro|refine R.mk ?_ ?_);all_goals intros))|fail "")
     all_goals first
      | (exact bD)
      | skip
  ·rw[if_pos hf]
   generalize kT H=e at *
   refine aU ae Tryz.func109 rfl ae ?_
   (repeat' first|(refine ar (I) (h:=?_))|(refine au (I) (h:=?_))|(refine ar (J) (h:=?_))|(refine au (J) (h:=?_))|(refine ab ?_;((repeat' first|exact True.intro|refine R.mk ?_ ?_);all_goals intros))|fail "")
   rw[oJ]
   (repeat' first|(refine ar (av) (h:=?_))|(refine au (av) (h:=?_))|(refine ab ?_;((repeat' first|exact True.intro|refine R.mk ?_ ?_);all_goals intros))|fail "")
   all_goals first
    | (exact bD)
    | skip
 ·rw[if_pos aS]
  refine aU ae Tryz.func109 rfl ae ?_
  (repeat' first|(refine ar (I) (h:=?_))|(refine au (I) (h:=?_))|(refine ab ?_;((repeat' first|exact True.intro|refine R.mk ?_ ?_);all_goals intros))|fail "")
  all_goals first
   | (exact bD)
   | skip
def QH (c:h2):Prop:=(((0<=c.gD/\c.gD<=3)/\0<=c.Id/\c.Id<=255)/\(0<=c.gW/\c.gW<=255)/\c.ky.length<=120)/\l0 c.bX=0/\c.bX.Client=true
noncomputable def uD (c:h2):Int:=if yes (QH c)=true then 0 else 9
def W4 (peer id word now:Int):h2×Int:=if ((0<=peer/\peer<=3)/\0<=id/\id<=255)/\0<=now/\now<=1099511627776 then(⟨peer,id,word,[],0,0,(QI true now).1⟩,0) else(default,6)
def W5 (r:h2×Int):V:=.b0 [.agg (vL r.1),.lit (.int .i64 r.2)]
def QJ (w:Int):bc:=⟨6,0,0,false,0,[],c5 w.toNat 8⟩
def QK (c:h2):gy:=⟨0,0,c.Id,c.ky,0,0⟩
noncomputable def W6 (c:h2):List UInt8×Int:=if uD c=0 then nw (Np 1 c.Id) (QK c) 0 (-1) [QJ c.o2] else([],uD c)
def W7 (m:Nat):List V:=[.lit (.int .i64 6),.lit (.int .i64 0),.lit (.int .i64 0),.lit (.bool false),.lit (.int .i64 0),.lit (.slice none 0 0),.ro ((c5 m 8).map aC)]
end
section
set_option maxRecDepth 100000
noncomputable def n1 (k:Int) (up:Bool):Int:=if up=true then gz k else gz (ee .xor .u64 IntKind.u64.max k)
def ny (fu:Int):gy:=⟨2,fu,0,[],0,0⟩
theorem I7 {fu:Int} (h:aF fu):mK (ny fu):=by
 unfold ny mK
 exact⟨by unfold aF;dsimp only;omega,h,by unfold aF;dsimp only;omega,by simp,by unfold aF;dsimp only;omega,by unfold aF;dsimp only;omega⟩
theorem H9 (key:Int) (h:gy) (n a:Int) (l:List bc):(nw key h n a l).1.length<=400:=by
 unfold nw
 split
 ·simp
 ·split
  ·simp
  ·split
   ·simp
   ·split
    ·simp
    ·unfold nM
     rw[List.length_append,List.length_append,vt,vv]
     omega
noncomputable def I8 (c:h2) (now:Int):List UInt8×Int:=nw (n1 c.Key true) (ny c.gW) (iE c.bX now).2.1 c.bX.bf.dn (iE c.bX now).2.2.1
def sX (c:h2) (n:a6):h2:={ c with bX:=n }
noncomputable def uE (now:Int):Nat->h2->h2×List (List UInt8)
 | 0,c=>(c,[])
 | n+1,c=>if (c.gW≠0/\(iE c.bX now).2.2.2=0/\(iE c.bX now).2.2.1.length≠0)/\(I8 c now).2=0 then((uE now n (sX c (iE c.bX now).1)).1,(I8 c now).1 :: (uE now n (sX c (iE c.bX now).1)).2) else(c,[])
structure wB (B:Nat) (c:h2):Prop where
 j:hl c.bX
 l:gj B c.bX
 p:aF c.gD
 i:aF c.Id
 w:kg c.o2
 t:c.ky.length<=1048576
 o:0<=c.gW/\c.gW<=255
 k:kg c.Key
theorem wB.v8 {B:Nat} {c:h2} {n:a6} (h:wB B c) (ah:hl n) (aq:gj B n):wB B (sX c n):=⟨ah,aq,h.p,h.i,h.w,h.t,h.o,h.k⟩
theorem wB.wf {B:Nat} {c:h2} (h:wB B c) (aB:B<=16777216):W.sB c:=by
 have aa:=h.o
 exact⟨h.p,h.i,h.w,by have:=h.t;omega,by unfold aF;omega,h.k,sL h.j h.l aB⟩
noncomputable def W8 (c:h2) (now:Int) (b:List UInt8):h2×Int×List (List UInt8)×Int:=
 if uD c=0 then(if 0<=now/\now<=1099511627776 then
  (if (oK c.bX).2.2=0 then
   (if (rG (oK c.bX).1 (oK c.bX).2.1 b true).2=0 then
    ((uE now 3 (sX c (rG (oK c.bX).1 (oK c.bX).2.1 b true).1)).1,(oK c.bX).2.1,(uE now 3 (sX c (rG (oK c.bX).1 (oK c.bX).2.1 b true).1)).2,0)
   else(c,0,[],(rG (oK c.bX).1 (oK c.bX).2.1 b true).2))
  else(c,0,[],(oK c.bX).2.2)) else(default,0,[],6)) else(default,0,[],uD c)
noncomputable def W9 (c:h2) (now:Int):h2×List (List UInt8)×Int:=
 if uD c=0 then(if (ku c.bX now).2=0 then((uE now 3 (sX c (ku c.bX now).1)).1,(uE now 3 (sX c (ku c.bX now).1)).2,0) else(default,[],(ku c.bX now).2)) else(default,[],uD c)
def QL (b:List UInt8):List V:=[.ro (b.map aC)]
def nP (g:cl) (i:Nat) (t:fR):cl:=
 match i with
 | 0=>{ g with c1:=t }
 | 1=>{ g with c2:=t }
 | 2=>{ g with c3:=t }
 | _=>{ g with c4:=t }
def lz (g:cl) (p:Int) (b:List UInt8):cl×Bool:=if (kr (fy g p.toNat) b.length).2=0 then(nP g p.toNat (kr (fy g p.toNat) b.length).1,true) else(g,false)
noncomputable def nZ (n:cb) (now:Int):List UInt8×Int:=nw (n1 n.Key false) (ny n.hk) (iE n.bX now).2.1 n.bX.bf.dn (iE n.bX now).2.2.1
def qc (n:cb) (c:a6):cb:={ n with bX:=c }
noncomputable def hM (now:Int):Nat->cb->cl->List dG->cb×cl×List dG
 | 0,n,g,o=>(n,g,o)
 | k+1,n,g,o=>if ((iE n.bX now).2.2.2=0/\(iE n.bX now).2.2.1.length≠0/\n.zd=true)/\(nZ n now).2=0/\(lz g n.gD (nZ n now).1).2=true then hM now k (qc n (iE n.bX now).1) (lz g n.gD (nZ n now).1).1 (o++[⟨n.gD,(nZ n now).1⟩]) else(n,g,o)
theorem Dp (now:Int) (k:Nat) (n:cb) (g:cl) (o:List dG):hM now (k+1) n g o=if ((iE n.bX now).2.2.2=0/\(iE n.bX now).2.2.1.length≠0/\n.zd=true)/\(nZ n now).2=0/\(lz g n.gD (nZ n now).1).2=true then hM now k (qc n (iE n.bX now).1) (lz g n.gD (nZ n now).1).1 (o++[⟨n.gD,(nZ n now).1⟩]) else(n,g,o):=rfl
noncomputable def jB (now:Int):List cb->cl->List dG->List cb->cl×List dG×List cb
 | [],g,o,l=>(g,o,l)
 | n :: r,g,o,l=>jB now r (hM now 3 n g o).2.1 (hM now 3 n g o).2.2 (if (hM now 3 n g o).1.bX.iz=true then l else l++[(hM now 3 n g o).1])
def gq (g:cl) (l:List cb):cl:={ g with bb:=l }
noncomputable def pk (g:cl) (o:List dG):cl×List dG:=(gq (jB g.b4 g.bb g o []).1 (jB g.b4 g.bb g o []).2.2,(jB g.b4 g.bb g o []).2.1)
structure jQ (B:Nat) (n:cb):Prop where
 j:hl n.bX
 l:gj B n.bX
 i:aF n.Id
 f:0<=n.hk/\n.hk<=255
 p:0<=n.gD/\n.gD<=3
 k:kg n.Key
structure iu (g:cl):Prop where
 s:kg g.iQ
 n:0<=g.b4/\g.b4<=1099511627776
 x:aF g.Next
 t0:iF g.c1
 t1:iF g.c2
 t2:iF g.c3
 t3:iF g.c4
 h:aF g.hR
structure DP (B:Nat) (l:List cb):Prop where
 k:l.length<=3
 n:∀ y ∈ l,jQ B y
theorem jQ.v8 {B:Nat} {n:cb} {c:a6} (h:jQ B n) (ah:hl c) (aq:gj B c):jQ B (qc n c):=⟨ah,aq,h.i,h.f,h.p,h.k⟩
theorem jQ.wf {B:Nat} {n:cb} (h:jQ B n) (aB:B<=16777216):W.hY n:=by
 have hf:=h.f
 have aw:=h.p
 exact⟨h.i,by unfold aF;omega,by unfold aF;omega,h.k,sL h.j h.l aB⟩
theorem Cg {t:fR} (h:iF t):gL t:=by
 unfold iF at h
 unfold gL aF
 omega
theorem iu.Ch {g:cl} (h:iu g) (i:Nat):iF (fy g i):=by
 match i with
 | 0=>exact h.t0
 | 1=>exact h.t1
 | 2=>exact h.t2
 | n+3=>exact h.t3
theorem iu.QM {g:cl} {t:fR} (h:iu g) (ht:iF t) (i:Nat):iu (nP g i t):=by
 match i with
 | 0=>exact⟨h.s,h.n,h.x,ht,h.t1,h.t2,h.t3,h.h⟩
 | 1=>exact⟨h.s,h.n,h.x,h.t0,ht,h.t2,h.t3,h.h⟩
 | 2=>exact⟨h.s,h.n,h.x,h.t0,h.t1,ht,h.t3,h.h⟩
 | n+3=>exact⟨h.s,h.n,h.x,h.t0,h.t1,h.t2,ht,h.h⟩
theorem QN {t:fR} {n:Int} (h:(kr t n).2=0):iF (kr t n).1:=by
 unfold kr at *
 split
 ·rename_i I;rw[if_pos I] at h;exact absurd h I
 ·rename_i I
  rw[if_neg I] at h
  unfold ll at I
  split
  ·rename_i J;rw[if_pos J] at h;cases h
  ·rename_i J
   rw[if_neg J] at h
   split
   ·rename_i av;rw[if_pos av] at h;cases h
   ·rename_i av
    by_cases ag:iF t
    ·rw[if_pos ag] at I
     by_cases hn:0<=n/\n<=400
     ·unfold iF at *
      dsimp only
      refine ⟨ag.1,ag.2.1,by omega,by omega,?_⟩
      cases wC:t.bO
      ·exact .inr (by have:¬ 3 * t.bM<t.az+n:=fun q=>av ⟨wC,q⟩;omega)
      ·exact .inl rfl
     ·rw[if_neg hn] at I;exact absurd (by decide) I
    ·rw[if_neg ag] at I;exact absurd (by decide) I
theorem QO (g:cl) (i:Nat) (t:fR):(nP g i t).bb=g.bb/\(nP g i t).b4=g.b4:=by
 match i with
 | 0|1|2|n+3=>exact⟨rfl,rfl⟩
theorem Dr {g:cl} {p:Int} {b:List UInt8} (h:iu g):iu (lz g p b).1/\(lz g p b).1.bb=g.bb/\(lz g p b).1.b4=g.b4:=by
 unfold lz
 split
 ·rename_i af
  exact⟨h.QM (QN af) _,QO _ _ _⟩
 ·exact⟨h,rfl,rfl⟩
theorem zK {B:Nat} {now:Int} (aB:B<=16777216):∀ (k:Nat) {n:cb} {g:cl} {o:List dG},jQ B n->iu g->jQ B (hM now k n g o).1/\iu (hM now k n g o).2.1/\(hM now k n g o).2.1.bb=g.bb/\(hM now k n g o).2.1.b4=g.b4/\(hM now k n g o).2.2.length<=o.length+k/\(hM now k n g o).1.Id=n.Id
 | 0,n,g,o,h,aj=>⟨h,aj,rfl,rfl,by unfold hM;simp,rfl⟩
 | k+1,n,g,o,h,aj=>by
  rw[Dp]
  split
  ·rename_i hh
   have hf:=Dn (now:=now) h.j h.l aB hh.1.1
   obtain ⟨s1,s2,oD⟩:=Dr (p:=n.gD) (b:=(nZ n now).1) aj
   obtain ⟨fs,a2,a3,a4,a5,ur⟩:=zK aB k (o:=o++[⟨n.gD,(nZ n now).1⟩]) (h.v8 hf.j hf.l) s1
   rw[List.length_append,List.length_singleton] at a5
   exact⟨fs,a2,by rw[a3,s2],by rw[a4,oD],by omega,ur⟩
  ·exact⟨h,aj,rfl,rfl,by simp,rfl⟩
theorem I9 {B:Nat} {now:Int} (aB:B<=16777216):∀ (r:List cb) {g:cl} {o:List dG} {l:List cb},(∀ y ∈ r,jQ B y)->iu g->(∀ y ∈ l,jQ B y) ->
  iu (jB now r g o l).1/\(∀ y ∈ (jB now r g o l).2.2,jQ B y)/\(jB now r g o l).2.2.length<=l.length+r.length/\(jB now r g o l).2.1.length<=o.length+3 * r.length/\(jB now r g o l).1.b4=g.b4
 | [],g,o,l,_,aj,aq=>⟨aj,aq,by simp[jB],by simp[jB],rfl⟩
 | n :: r,g,o,l,hr,aj,aq=>by
  obtain ⟨fs,a2,a3,a4,a5,ur⟩:=zK (now:=now) aB 3 (o:=o) (hr n List.mem_cons_self) aj
  unfold jB
  have kh:∀ y ∈ (if (hM now 3 n g o).1.bX.iz=true then l else l++[(hM now 3 n g o).1]),jQ B y:=fun y ai=>by
   split at ai
   ·exact aq y ai
   ·rcases List.mem_append.1 ai with ai|ai
    ·exact aq y ai
    ·rw[List.mem_singleton] at ai;exact ai ▸ fs
  have hlen:(if (hM now 3 n g o).1.bX.iz=true then l else l++[(hM now 3 n g o).1]).length<=l.length+1:=by
   split
   ·omega
   ·simp
  obtain ⟨b3,dw,qm,pn,Ja⟩:=I9 aB r (o:=(hM now 3 n g o).2.2) (fun y ai=>hr y (List.mem_cons_of_mem _ ai)) a2 kh
  rw[List.length_cons]
  exact⟨b3,dw,by omega,by omega,by rw[Ja,a4]⟩
theorem CG {g:cl} (af:mO g=0) (hu:bR.iT g):iu g/\DP 4194304 g.bb/\1<=g.Next/\g.Next<=256/\0<=g.hR/\g.hR<=1099511627776:=by
 unfold mO at af
 split at af
 ·rename_i ai
  obtain ⟨⟨hn,ht⟩,ag⟩:=uF.1 ai
  unfold km at hn
  obtain ⟨wD,wE,Ap,zj,Aq,CS,DQ,u8,Jb,Jc⟩:=hu
  have Ar:∀ i,i<4->iF (fy g i):=fun i hi=>Classical.byContradiction fun q=>by
   have:=ht i hi
   dsimp only at this
   unfold ho at this
   rw[if_neg q] at this;cases this
  refine ⟨⟨wD,hn.1,Ap,Ar 0 (by omega),Ar 1 (by omega),Ar 2 (by omega),Ar 3 (by omega),Jc⟩,⟨hn.2.2.1,fun y ai=>?_⟩,hn.2.1.1,hn.2.1.2,hn.2.2.2.1,hn.2.2.2.2⟩
  obtain ⟨i,hi,rfl⟩:=List.getElem_of_mem ai
  have hh:=ag i hi
  unfold n4 at hh
  rw[List.getD_eq_getElem?_getD,List.getElem?_eq_getElem hi] at hh
  dsimp only[Option.getD_some] at hh
  obtain ⟨v1,v2,v3,v4,v5⟩:=Aq _ ai
  obtain ⟨fs,a2⟩:=QP hh.2.1 v5
  exact⟨fs,a2,v1,hh.1.2.2.1,hh.1.2.2.2,v4⟩
 ·cases af
theorem CJ {B:Nat} {g:cl} {o:List dG} (aB:B<=16777216) (aj:iu g) (aq:DP B g.bb):iu (pk g o).1/\DP B (pk g o).1.bb/\(pk g o).2.length<=o.length+9:=by
 obtain ⟨b3,dw,qm,pn,Ja⟩:=I9 (now:=g.b4) aB g.bb (o:=o) (l:=[]) aq.n aj (fun y ai=>by cases ai)
 have ag:=aq.k
 simp only[List.length_nil] at qm
 unfold pk gq
 exact⟨⟨b3.s,b3.n,b3.x,b3.t0,b3.t1,b3.t2,b3.t3,b3.h⟩,⟨by dsimp only;omega,dw⟩,by dsimp only;omega⟩
def po (ask:cb->Bool):List cb->Nat
 | []=>0
 | n :: l=>if ask n=true then 0 else po ask l+1
def wF (g:cl) (i:Nat) (n:cb):cl:={ g with bb:=g.bb.set i n }
noncomputable def Xa (g:cl) (id lane:Int) (b:List UInt8):cl×List dG×Int:=
  if mO g=0 then
    (if po (fun n=>decide (n.Id=id)) g.bb<g.bb.length then
      (if (rG (g.bb.getD (po (fun n=>decide (n.Id=id)) g.bb) default).bX lane b true).2=0 then
        ((pk (wF g (po (fun n => decide (n.Id = id)) g.bb) (qc (g.bb.getD (po (fun n => decide (n.Id = id)) g.bb) default) (rG (g.bb.getD (po (fun n => decide (n.Id = id)) g.bb) default).bX lane b true).1)) []).1,
         (pk (wF g (po (fun n=>decide (n.Id=id)) g.bb) (qc (g.bb.getD (po (fun n=>decide (n.Id=id)) g.bb) default) (rG (g.bb.getD (po (fun n=>decide (n.Id=id)) g.bb) default).bX lane b true).1)) []).2,0)
      else(g,[],(rG (g.bb.getD (po (fun n=>decide (n.Id=id)) g.bb) default).bX lane b true).2))
    else(g,[],5)) else(default,[],mO g)
noncomputable def fD (now:Int) (n:cb):cb:=qc n (ku n.bX now).1
def kw (g:cl) (t:Int):cl:={ g with b4:=t }
noncomputable def o1 (g:cl) (n:Int):cl×List dG×Int:=
 if mO g=0 then(if (1<=n/\n<=60)/\g.b4+n<=1099511627776 then
  ((pk (gq (kw g (g.b4+n)) (g.bb.map (fD (g.b4+n)))) []).1,(pk (gq (kw g (g.b4+n)) (g.bb.map (fD (g.b4+n)))) []).2,0)
  else(default,[],6)) else(default,[],mO g)
end
section
set_option maxRecDepth 100000
attribute [local irreducible] cq a8 bw GStep Fn cu bk cU
def QQ (g:FS->FS) (z:FS):FS:=if ¬ z.2.2=0 then z else g z
def QR (c:UInt8) (z:FS):FS:=
 if (c.toNat:Int)=105 then Jd z else if (c.toNat:Int)=111 then Je z else if (c.toNat:Int)=99 then Jf z else if (c.toNat:Int)=119 then Jg z else if (c.toNat:Int)=100 then Jh z else z
def QS:List UInt8->FS->FS
 | [],z=>z
 | c :: l,z=>QS l (QQ (QR c) z)
def Xb (z w:FS):Prop:=z=w\/(¬ z.2.2=0/\z.2.2=w.2.2)
def Xc (g:FS->FS):Prop:=∀ z,¬ z.2.2=0->(g z).2.2=z.2.2
theorem dI.all:∀ {vs cc:List V},dI vs cc -> vs.length=cc.length /\ ∀ j,j<vs.length->cZ (bx vs j) (bx cc j)
 | _,_,.nil=>⟨rfl,fun j ah=>by simp at ah⟩
 | _,_,.cons h ap=>by
  obtain ⟨e,cf⟩:=dI.all ap
  refine ⟨by simp[e],fun j ah=>?_⟩
  cases j with
  | zero=>exact h
  | succ j=>rw[wG,wG];exact cf j jD
theorem Ji {P:Program} {f:FuncId} {vs cc:List V} {r:V} (h:Fn P f cc r) (hw:dI vs cc):Fn P f vs r:=by
 obtain ⟨e,ah⟩:=hw.all
 unfold Fn at *
 refine ⟨h.1,fun w S gv I J av=>h.2 w S gv (by rw[I,e]) J (fun j aq=>?_)⟩
 exact(ah j (by omega)).rel (av j (by omega))
end
end Go.Proofs.YtendheafcbickaaGreat
