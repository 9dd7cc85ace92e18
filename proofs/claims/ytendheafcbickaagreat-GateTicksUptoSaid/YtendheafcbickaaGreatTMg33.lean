/-
  SEVERAL TEXTS IN ONE: each with its own comment.
-/
import Derived.Test.YtendheafcbickaaGreatTGo
import Derived.Test.YtendheafcbickaaGreatTMg31
import Derived.Test.YtendheafcbickaaGreatTMg17
import Derived.Test.YtendheafcbickaaGreatTTkC
import Derived.Test.YtendheafcbickaaGreatTMg15
import Derived.Test.YtendheafcbickaaGreatTMg22
import Derived.Test.YtendheafcbickaaGreatTMg06
import Derived.Test.YtendheafcbickaaGreatTMg27
import Derived.Test.YtendheafcbickaaGreatTAbsB
import Derived.Test.YtendheafcbickaaGreatTMg10
import Derived.Test.YtendheafcbickaaGreatTMg23
set_option linter.unusedVariables false
set_option linter.unusedSimpArgs false
namespace Go.Proofs.YtendheafcbickaaGreat
section
set_option maxRecDepth 100000
def pH (B:Nat) (y:dV):Prop:=aF y.Id/\iU y.In/\jP y.In=0/\qs y.In.cI<=B/\bR.hJ y.Out/\(0<=y.Out.Next/\y.Out.Next<=y.Out.Data.length/\y.Out.Data.length<=600)/\y.Read.length<=800
structure hl (c:a6):Prop where
 op:0<=c.gJ/\c.gJ<=4611686018427387904
 sd:0<=c.kK/\c.kK<=4611686018427387903
 id:0<=c.ks/\c.ks<=4611686018427387903
 nC:h4 c.fL
 cr:h4 c.fQ
 sp:bR.eF c.bf
 vn:hE c.e8
 ck:0<=c.jO/\c.jO<=1099511627776
 k3:0<=c.kL/\c.kL<=4
 vo:aF c.Code
structure gj (B:Nat) (c:a6):Prop where
 iX:c.aO.length<=4
 qt:∀ i,i<c.aO.length->mJ c.aO i<(c.aO.getD i default).Id/\(c.aO.getD i default).Id<c.gJ
 oh:∀ y ∈ c.aO,pH B y
 se:c.Queue.length<=12
 tO:∀ y ∈ c.Queue,bR.dC y
def X7 (B:Nat) (r:a6×Int):Prop:=hl r.1/\aF r.2/\(r.2=0->gj B r.1)
theorem Wj {B bT:Nat} {y:dV} (h:pH B y) (hb:B<=bT):pH bT y:=⟨h.1,h.2.1,h.2.2.1,Nat.le_trans h.2.2.2.1 hb,h.2.2.2.2⟩
theorem gj.mono {B bT:Nat} {c:a6} (h:gj B c) (hb:B<=bT):gj bT c:=⟨h.iX,h.qt,fun y ai=>Wj (h.oh y ai) hb,h.se,h.tO⟩
theorem Nc {B:Nat} {y:dV} (h:pH B y) (aB:B<=16777216):W.gM y:=by
 obtain ⟨I,J,av,bl,dm,fr,gB⟩:=h
 obtain ⟨hh,_⟩:=JE av
 unfold mb at hh
 refine ⟨I,⟨J.1,by omega,fun p aw=>?_,J.2.2.2.1,J.2.2.2.2⟩,by omega,dm⟩
 have:=JC aw
 exact⟨(J.2.2.1 p aw).1,by omega⟩
theorem gj.j9 {B:Nat} {c:a6} (h:gj B c) (aB:B<=16777216):j9 c.aO:=fun y ai=>Nc (h.oh y ai) aB
theorem sL {B:Nat} {c:a6} (ah:hl c) (h:gj B c) (aB:B<=16777216):W.ej c:=by
 obtain ⟨X8,X9,Ya,Wk,Wl,Wm,Wn,Yb,Yc,Wo⟩:=ah
 unfold h4 at Wk Wl
 have bl:=h.iX
 have kf:=h.se
 refine ⟨Wm,Wn,⟨by unfold aF;omega,by unfold aF;omega⟩,⟨by unfold aF;omega,by unfold aF;omega⟩,by unfold aF;omega,by unfold aF;omega,by unfold aF;omega,by omega,fun y ai=>Nc (h.oh y ai) aB,by omega,h.tO,by unfold aF;omega,by unfold aF;omega,Wo⟩
theorem Wp {l:List dV} {n:Nat} {y:dV} {op:Int} (hn:n<l.length) (ai:y.Id=(l.getD n default).Id) (h:∀ i,i<l.length->mJ l i<(l.getD i default).Id/\(l.getD i default).Id<op) :
  ∀ i,i<(l.set n y).length->mJ (l.set n y) i<((l.set n y).getD i default).Id/\((l.set n y).getD i default).Id<op:=by
 have key:∀ i,((l.set n y).getD i default).Id=(l.getD i default).Id:=fun i=>by
  rw[List.getD_eq_getElem?_getD,List.getD_eq_getElem?_getD,List.getElem?_set]
  by_cases e:n=i
  ·subst e
   rw[if_pos rfl,if_pos hn]
   rw[List.getD_eq_getElem?_getD] at ai
   exact ai
  ·rw[if_neg e]
 intro i hi
 rw[List.length_set] at hi
 rw[key]
 have I:=h i hi
 refine ⟨?_,I.2⟩
 have J:=I.1
 unfold mJ at J ⊢
 split
 ·rename_i af;rw[if_pos af] at J;exact J
 ·rename_i af;rw[if_neg af] at J;rw[key];exact J
theorem Wq {B:Nat} {c:a6} {n:Nat} {y:dV} (h:gj B c) (hn:n<c.aO.length) (ai:y.Id=(e5 c n).Id) (aq:pH B y):gj B (nx c n y):=by
 refine ⟨by unfold nx;dsimp only;rw[List.length_set];exact h.iX,Wp hn ai h.qt,fun z bh=>?_,h.se,h.tO⟩
 rcases List.mem_or_eq_of_mem_set bh with bh|bh
 ·exact h.oh z bh
 ·exact bh ▸ aq
theorem Wr {l:List bc} {f y:bc} (ai:y ∈ (hG l f).1):y ∈ l\/y=f:=by
 unfold hG at ai
 split at ai
 ·exact List.mem_or_eq_of_mem_set ai
 ·split at ai
  ·exact .inl ai
  ·rcases List.mem_append.1 ai with h|h
   ·exact .inl h
   ·rw[List.mem_singleton] at h;exact .inr h
theorem Ws {B:Nat} {c:a6} {f:bc} (h:gj B c) (hf:bR.dC f):gj B (lf c (hG c.Queue f).1):=
 ⟨h.iX,h.qt,h.oh,ME _ _ h.se,fun y ai=>(Wr ai).elim (h.tO y) (fun e=>e ▸ hf)⟩
theorem Vd {c:a6} {q:List bc} (h:hl c):hl (lf c q):=⟨h.op,h.sd,h.id,h.nC,h.cr,h.sp,h.vn,h.ck,h.k3,h.vo⟩
end
section
set_option maxRecDepth 100000
attribute [local irreducible] cq a8 bw GStep Fn cu bk cU
def Yd (l:List dV):Prop:=∀ y ∈ l,bR.hJ y.Out/\(0<=y.Out.Next/\y.Out.Next<=y.Out.Data.length/\y.Out.Data.length<=600)
def Ye (l:List aQ) (top:Int) (p:eN):Bool:=decide (p.Number<=top - 3) && !vX l p.Number
def Yf (l:List aQ) (top:Int) (p:eN):Bool:=!decide (p.Number<=top - 3) && !vX l p.Number
def Yg (s:List UInt8) (u:Nat) (e:Int):List V:=[.ro (s.map aC),.lit (.int .i64 u),.lit (.int .i64 e)]
def er (s:List UInt8) (e:Int):Nat×List UInt8×Int:=
 if ¬ e=0 then(0,s,e) else if (yL s).2.2=0 then((yL s).1,s.drop (yL s).2.1,0) else(0,s,4)
def vq (n:Nat) (s:List UInt8) (e:Int):List UInt8×List UInt8×Int:=
 if ¬ e=0 then([],s,e) else if s.length<n then([],s,4) else(s.take n,s.drop n,0)
def Wt (e c:Int):Int:=if e=0 then c else e
def Yh (A:Nat) (s:List UInt8) (e:Int):List V:=[.ro (s.map aC),.lit (.int .i64 ((A:Int) - (s.length:Int))),.lit (.int .i64 e)]
def BW (i:Nat) (hi:Int) (out:List aQ) (s:List UInt8) (e:Int):Int×List aQ×List UInt8×Int:=
 if i=0 then(hi,out++[⟨hi - (er s e).1,hi⟩],(er s e).2.1,if (er s e).2.2=0/\hi - (er s e).1<0 then 6 else(er s e).2.2)
 else((out.getD (i - 1) default).bs - (er s e).1 - 2,out++[⟨(out.getD (i - 1) default).bs - (er s e).1 - 2 - (er (er s e).2.1 (er s e).2.2).1,(out.getD (i - 1) default).bs - (er s e).1 - 2⟩],
  (er (er s e).2.1 (er s e).2.2).2.1,if (er (er s e).2.1 (er s e).2.2).2.2=0/\(out.getD (i - 1) default).bs - (er s e).1 - 2 - (er (er s e).2.1 (er s e).2.2).1<0 then 6 else(er (er s e).2.1 (er s e).2.2).2.2)
def Nd:Nat->Nat->Int->List aQ->List UInt8->Int->List aQ×List UInt8×Int
 | 0,_,_,out,s,e=>(out,s,e)
 | m+1,i,hi,out,s,e=>if ¬ e=0 then(out,s,e) else Nd m (i+1) (BW i hi out s e).1 (BW i hi out s e).2.1 (BW i hi out s e).2.2.1 (BW i hi out s e).2.2.2
def Wu (n:Nat) (hi:Int) (s:List UInt8) (e:Int):List aQ×List UInt8×Int:=
 if e=0/\6<=n then([],s,1) else Nd (n+1) 0 hi [] s e
def Gw (s:List UInt8) (e:Int):List aQ×List UInt8×Int:=
 Wu (er (er s e).2.1 (er s e).2.2).1 (er s e).1 (er (er s e).2.1 (er s e).2.2).2.1 (er (er s e).2.1 (er s e).2.2).2.2
abbrev FS:=bc×List UInt8×Int
def Wv (z:FS):FS:=({ z.1 with bi:=(Gw z.2.1 z.2.2).1 },(Gw z.2.1 z.2.2).2.1,(Gw z.2.1 z.2.2).2.2)
def Jd (z:FS):FS:=({ z.1 with Id:=((er z.2.1 z.2.2).1:Int) },(er z.2.1 z.2.2).2.1,(er z.2.1 z.2.2).2.2)
def Je (z:FS):FS:=({ z.1 with bI:=((er z.2.1 z.2.2).1:Int) },(er z.2.1 z.2.2).2.1,(er z.2.1 z.2.2).2.2)
def Jf (z:FS):FS:=({ z.1 with Code:=((er z.2.1 z.2.2).1:Int) },(er z.2.1 z.2.2).2.1,(er z.2.1 z.2.2).2.2)
def Jg (z:FS):FS:=({ z.1 with Code:=IntKind.i64.wrap ((ia 0 (vq 8 z.2.1 z.2.2).1:Nat):Int) },(vq 8 z.2.1 z.2.2).2.1,(vq 8 z.2.1 z.2.2).2.2)
def Gx (z:FS):Int:=if 120<(er z.2.1 z.2.2).1 then Wt (er z.2.1 z.2.2).2.2 1 else(er z.2.1 z.2.2).2.2
def Jh (z:FS):FS:=({ z.1 with Data:=(vq (er z.2.1 z.2.2).1 (er z.2.1 z.2.2).2.1 (Gx z)).1 },(vq (er z.2.1 z.2.2).1 (er z.2.1 z.2.2).2.1 (Gx z)).2.1,(vq (er z.2.1 z.2.2).1 (er z.2.1 z.2.2).2.1 (Gx z)).2.2)
def BX (b:Bool) (f:FS->FS) (z:FS):FS:=if b=true then f z else z
def Ww (w c:Bool) (z:FS):FS:=if w=true then Jg z else BX c Jf z
def Wx (s:List UInt8) (z:FS):FS:=BX (c6 s 100) Jh (Ww (c6 s 119) (c6 s 99 || c6 s 119) (BX (c6 s 111) Je (BX (c6 s 105) Jd z)))
def yH (e:Int):bc×Int×Int:=(⟨0,0,0,false,0,[],[]⟩,0,e)
def Wy (A:Nat) (z:FS):bc×Int×Int:=if ¬ z.2.2=0 then yH z.2.2 else if ¬ eu z.1=0 then yH (eu z.1) else(z.1,(A:Int) - (z.2.1.length:Int),0)
def Wz (A:Nat) (K:Int) (fin:Bool) (s:List UInt8):bc×Int×Int:=
 if mI K=false then yH 2 else Wy A (Wx (hasB K) (if K=2 then Wv (⟨K,0,0,fin,0,[],[]⟩,s,0) else(⟨K,0,0,fin,0,[],[]⟩,s,0)))
def WA (A n:Nat) (s:List UInt8) (e:Int):bc×Int×Int:=
 if ¬ e=0 then yH e else if n=8 then yH 2 else Wz A (if n=14\/n=15 then 8 else n) (decide (n=15)) s
def Yi (l:List UInt8):bc×Int×Int:=WA l.length (er l 0).1 (er l 0).2.1 (er l 0).2.2
def Yj (r:bc×Int×Int):V:=.b0 [.agg (aW r.1),.lit (.int .i64 r.2.1),.lit (.int .i64 r.2.2)]
structure Good (A:Nat) (z:FS):Prop where
 k:aF z.1.Kind
 i:aF z.1.Id
 o:aF z.1.bI
 c:aF z.1.Code
 r:z.1.bi=[]
 d:z.1.Data=[]
 l:z.2.1.length<=A
def Yk (l:List aQ):Prop:=∀ y,y ∈ l->fz y
theorem U7 {f:bc} (h:eu f=0):f.Data.length<=120/\f.bi.length<=6:=by
 unfold eu at h
 split at h
 ·cases h
 split at h
 ·cases h
 rename_i I J
 omega
end
section
set_option maxRecDepth 100000
theorem WB {c:a6} {p:fM} (h:hl c) (aw:hE p):hl (nR c p):=⟨h.op,h.sd,h.id,h.nC,h.cr,h.sp,aw,h.ck,h.k3,h.vo⟩
theorem WC {B:Nat} {c:a6} {p:fM} (h:gj B c):gj B (nR c p):=⟨h.iX,h.qt,h.oh,h.se,h.tO⟩
theorem Ve {c:a6} {s:c8} (h:hl c) (ap:bR.eF s):hl (ie c s):=⟨h.op,h.sd,h.id,h.nC,h.cr,ap,h.vn,h.ck,h.k3,h.vo⟩
theorem Vf {B:Nat} {c:a6} {s:c8} (h:gj B c):gj B (ie c s):=⟨h.iX,h.qt,h.oh,h.se,h.tO⟩
theorem WD {c:a6} {l:List dV} {q:List bc} (h:hl c):hl (l3 c l q):=⟨h.op,h.sd,h.id,h.nC,h.cr,h.sp,h.vn,h.ck,h.k3,h.vo⟩
theorem WE {B:Nat} {y:dV} {s:dE} (h:pH B y) (ap:bR.hJ s) (hn:s.Next=y.Out.Next) (hd:s.Data=y.Out.Data):pH B { y with Out:=s }:=
 ⟨h.1,h.2.1,h.2.2.1,h.2.2.2.1,ap,by dsimp only;rw[hn,hd];exact h.2.2.2.2.2.1,h.2.2.2.2.2.2⟩
theorem WG {s:dE} {off n:Int} {fin:Bool} (af:(ld s off n fin).2=0):(ld s off n fin).1.Next=s.Next/\(ld s off n fin).1.Data=s.Data:=by
 unfold ld at *
 by_cases jl:kS s off n fin=0
 ·rw[if_neg (by omega)];exact⟨rfl,rfl⟩
 ·rw[if_pos jl] at af;exact absurd af jl
theorem Gy {f:bc} {n:Int} (hf:bR.dC f) (h:aF n):bR.dC (so f n):=⟨hf.1,hf.2.1,h,hf.2.2.2.1,hf.2.2.2.2.1,hf.2.2.2.2.2.1,hf.2.2.2.2.2.2⟩
theorem WH {B:Nat} {c:a6} {f:bc} (ah:hl c) (aq:gj B c) (hf:bR.dC f) (U:f.Kind=17->eb c.aO f.Id<c.aO.length):bR.dC (sq c f):=by
 unfold sq
 split
 ·have:=ah.nC
  unfold h4 at this
  exact Gy hf (by unfold aF;omega)
 ·split
  ·have:=ah.sd
   exact Gy hf (by unfold aF;omega)
  ·split
   ·rename_i h
    exact Gy hf (aq.oh _ (cY (U h))).2.1.2.2.2.2
   ·exact hf
theorem WI {B:Nat} {c:a6} {f:bc} (ah:hl c) (h:gj B c) (hf:bR.dC f):gj B (l3 c c.aO (l2 c f).1):=by
 have hle:=q1 c.aO f.Id
 unfold l2
 split
 ·exact h
 ·split
  ·exact h
  ·rename_i ow
   exact Ws h (WH ah h hf (fun k=>by
    rcases Nat.lt_or_ge (eb c.aO f.Id) c.aO.length with I|I
    ·exact I
    ·exact absurd ⟨k,.inl (by omega)⟩ ow))
theorem WJ {B:Nat} {c:a6} {f:bc} (ah:hl c) (h:gj B c) (hf:bR.dC f):gj B (l3 c (jz c f).1 (jz c f).2.1):=by
 unfold jz
 split
 ·split
  ·rename_i U
   split
   ·rename_i af
    have ai:=h.oh _ (cY U)
    obtain ⟨a,b⟩:=WG af
    exact Wq h U rfl (WE ai (Cw ai.2.2.2.2.1 af) a b)
   ·exact h
  ·exact h
 ·split
  ·exact WI ah h hf
  ·exact h
theorem Nf {B:Nat}:∀ (l:List bc) {c:a6},hl c->gj B c->(∀ f ∈ l,bR.dC f)->hl (jh c l).1/\gj B (jh c l).1
 | [],c,ah,h,_=>⟨ah,h⟩
 | f :: l,c,ah,h,hf=>by
  unfold jh
  split
  ·exact Nf l (WD ah) (WJ ah h (hf f List.mem_cons_self)) (fun g aj=>hf g (List.mem_cons_of_mem _ aj))
  ·exact⟨ah,h⟩
theorem MN {B:Nat} {now:Int}:∀ (l:List eN) {c:a6},hl c->gj B c->(∀ p ∈ l,bR.jg p)->hl (h1 now c l).1/\gj B (h1 now c l).1
 | [],c,ah,h,_=>⟨ah,h⟩
 | p :: l,c,ah,h,aw=>by
  obtain ⟨fs,a2⟩:=Nf p.Frames (WB ah (Ct _ _ _ _ ah.vn):hl (nR c (ss c p now))) (WC h) (aw p List.mem_cons_self).2.2.2.2
  unfold h1
  split
  ·exact MN l fs a2 (fun g aj=>aw g (List.mem_cons_of_mem _ aj))
  ·exact⟨fs,a2⟩
def BY (c C:a6):Prop:=c.aO.length<=C.aO.length/\(∀ i,i<c.aO.length->(C.aO.getD i default).Id=(c.aO.getD i default).Id/\(C.aO.getD i default).Read=(c.aO.getD i default).Read)
 /\ (∀ i,c.aO.length<=i->i<C.aO.length->c.gJ<=(C.aO.getD i default).Id/\(C.aO.getD i default).Read=[])/\c.gJ<=C.gJ
theorem BY.trans {a b c:a6} (I:BY a b) (J:BY b c):BY a c:=by
 obtain ⟨dD,c7,fb,iS⟩:=I
 obtain ⟨aT,a1,bz,cW⟩:=J
 refine ⟨by omega,fun i hi=>?_,fun i I J=>?_,by omega⟩
 ·have fs:=c7 i hi
  have a2:=a1 i (by omega)
  exact⟨a2.1.trans fs.1,a2.2.trans fs.2⟩
 ·by_cases hb:i<b.aO.length
  ·have fs:=fb i I hb
   have a2:=a1 i hb
   exact⟨by rw[a2.1];exact fs.1,a2.2.trans fs.2⟩
  ·have a2:=bz i (by omega) J
   exact⟨by omega,a2.2⟩
theorem MM {c:a6} {e:Int} (h:hl c) (he:aF e):hl (kN c e):=⟨h.op,h.sd,h.id,h.nC,h.cr,h.sp,h.vn,h.ck,h.k3,he⟩
theorem ML {c:a6} {e:Int} (he:aF e):gj 0 (kN c e):=by
 refine ⟨by unfold kN;simp,(fun i hi=>by unfold kN at hi;simp at hi),(fun y ai=>by cases ai),by unfold kN;simp,fun y ai=>?_⟩
 have ai:y ∈ [ox e]:=ai
 rw[List.mem_singleton] at ai
 subst ai
 unfold ox bR.dC
 exact⟨by unfold aF;dsimp only;omega,by unfold aF;dsimp only;omega,by unfold aF;dsimp only;omega,he,by simp,(fun y ai=>by cases ai),by simp⟩
theorem WK {l:List dV} {y:dV} (h:y ∈ l):∃ i,i<l.length/\l.getD i default=y:=by
 obtain ⟨i,hi,e⟩:=List.getElem_of_mem h
 exact⟨i,hi,by rw[List.getD_eq_getElem?_getD,List.getElem?_eq_getElem hi];exact e⟩
theorem QP {c:a6} (hc:l0 c=0) (hu:bR.ej c):hl c/\gj 4194304 c:=by
 obtain ⟨_,ag⟩ | ⟨lg,_⟩:=tZ c
 ·obtain ⟨⟨⟨⟨bL,gT⟩,iN⟩,vy⟩,vz⟩:=ag
  obtain ⟨fs,a2,a3,a4⟩:=bL
  unfold iR at gT
  obtain ⟨wD,wE,Ap,zj,Aq,CS,DQ,u8,Jb,Jc,WL,Yl,Ym,WM⟩:=hu
  have f1:h4 c.fL:=Classical.byContradiction fun q=>by unfold o0 at a3;rw[if_neg q] at a3;exact absurd a3 (by decide)
  have f2:h4 c.fQ:=Classical.byContradiction fun q=>by unfold o0 at a4;rw[if_neg q] at a4;exact absurd a4 (by decide)
  refine ⟨⟨by omega,by omega,by omega,f1,f2,wD,wE,by omega,by omega,WM⟩,⟨by omega,fun i hi=>⟨(iN i hi).1,(iN i hi).2.1⟩,fun y ai=>?_,by omega,WL⟩⟩
  obtain ⟨i,hi,e⟩:=WK ai
  obtain ⟨iA,iw,lC,iX,nE⟩:=iN i hi
  rw[e] at iA iw lC iX nE
  obtain ⟨cy,cR,w3,ef⟩:=Jb y ai
  obtain ⟨hh,_⟩:=JE lC
  unfold mb at hh
  have ap:lI y.Out:=by
   rcases su y.Out with⟨_,q⟩ | ⟨q,_⟩
   ·exact q
   ·rw[q] at iX;exact absurd iX (by decide)
  have ap:=ap.1.1.1
  unfold nm at ap
  have bh:=JB (B:=1048576) (fun p aw=>by have:=(cR.2.2.1 p aw).2;omega:∀ p ∈ y.In.cI,p.Data.length<=1048576)
  have Yn:1048576 * y.In.cI.length<=1048576 * 4:=Nat.mul_le_mul_left _ hh.2.2.2.2
  exact⟨cy,bR.BT _ cR,lC,by omega,ef,by omega,nE⟩
 ·rw[lg] at hc;exact absurd hc (by decide)
end
end Go.Proofs.YtendheafcbickaaGreat
