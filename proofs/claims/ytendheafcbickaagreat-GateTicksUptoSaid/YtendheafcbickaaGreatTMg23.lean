/-
  SEVERAL TEXTS IN ONE: each with its own comment.
-/
import Derived.Test.YtendheafcbickaaGreatTGo
import Derived.Test.YtendheafcbickaaGreatTMg06
import Derived.Test.YtendheafcbickaaGreatProg
import Derived.Test.YtendheafcbickaaGreatTMg15
import Derived.Test.YtendheafcbickaaGreatTMg13
import Derived.Test.YtendheafcbickaaGreatTMg07
import Derived.Shelf.Sort.Plain
import Derived.Sort.OwnSortedInts
import Derived.Test.YtendheafcbickaaGreatTMg11
import Derived.Test.YtendheafcbickaaGreatTZip
import Derived.Test.YtendheafcbickaaGreatTMg09
import Derived.Test.YtendheafcbickaaGreatTAbsB
set_option linter.unusedVariables false
set_option linter.unusedSimpArgs false
namespace Go.Proofs.YtendheafcbickaaGreat
section
set_option maxRecDepth 100000
attribute [local irreducible] cq a8 bw GStep Fn cu bk
def Rn:Option (List dH×dH)->dH->Option (List dH×dH)
 | none,p=>some ([],p)
 | some (L,q),p=>if q.bI+q.Data.length=p.bI then some (L,⟨q.bI,q.Data++p.Data⟩) else some (L++[q],p)
def Jt:Option (List dH×dH)->List dH->Option (List dH×dH)
 | x,[]=>x
 | x,p :: l=>Jt (Rn x p) l
def Ee:Option (List dH×dH)->List dH
 | none=>[]
 | some (L,q)=>L++[q]
def Ju (l:List dH):List dH:=Ee (Jt none l)
def qs:List dH->Nat
 | []=>0
 | p :: l=>p.Data.length+qs l
def Jv (p:dH):Prop:=0<=p.bI/\p.bI+p.Data.length<=4611686018427387903
noncomputable def Xh (l:List dH) (k:Nat):Option (List dH×dH)->ba
 | none=>⟨[(7,.ro (l.map kx)),(8,.lit (.int .i64 l.length)),(9,.lit (.int .i64 k)),(3,.own 0)],[(0,some (.jG 235 2 []))],1,Tryz.f252.ntmps⟩
 | some (L,q)=>⟨[(7,.ro (l.map kx)),(8,.lit (.int .i64 l.length)),(9,.lit (.int .i64 k)),(3,.own 0)],[(0,some (.jG 235 2 (L.map kx++[[.lit (.int .i64 q.bI),.own 1]]))),(1,some (.row 5 1 (q.Data.map aC)))],2,Tryz.f252.ntmps⟩
def Xi (l:List dH) (k:Nat):Option (List dH×dH)->Prop
 | none=>k=0/\qs (l.drop k)<=140737488355328
 | some (L,q)=>L.length+1<=k/\Jv q/\q.Data.length+qs (l.drop k)<=140737488355328
end
section
set_option maxRecDepth 100000
attribute [local irreducible] cq a8 bw GStep Fn cu bk cU
def Ro (a off:Int) (data:List UInt8) (fu:Int):dH:=⟨a,(data.take (fu - off).toNat).drop (a - off).toNat⟩
def Jw (a off:Int) (data:List UInt8) (fu:Int) (l:List dH):List dH:=if a<fu then l++[Ro a off data fu] else l
end
section
set_option maxRecDepth 100000
attribute [local irreducible] cq a8 bw GStep Fn cu bk
def mM (g:fE):Int:=if 0<g.cI.length then(g.cI.getD (g.cI.length - 1) default).bI+(g.cI.getD (g.cI.length - 1) default).Data.length else g.fN
end
section
set_option maxRecDepth 100000
def Rp (off last:Int) (data:List UInt8) (x:Int×Bool×List dH) (p:dH):Int×Bool×List dH:=
 (max x.1 (p.bI+p.Data.length),x.2.1 || decide (last<=max x.1 (p.bI+p.Data.length)),(if x.2.1=false/\x.1<=p.bI then Jw x.1 off data (min p.bI last) x.2.2 else x.2.2)++[p])
def Jx (off last:Int) (data:List UInt8):Int×Bool×List dH->List dH->Int×Bool×List dH
 | x,[]=>x
 | x,p :: l=>Jx off last data (Rp off last data x p) l
def Rq (off last:Int) (data:List UInt8) (x:Int×Bool×List dH):List dH:=Jw x.1 off data last x.2.2
def Jy (g:fE) (off:Int) (data:List UInt8):List dH:=Rq off (off+data.length) data (Jx off (off+data.length) data (max off g.fN,false,[]) g.cI)
def pa (g:fE) (off:Int) (data:List UInt8) (fin:Bool):fE×Int:=
 if jP g≠0 then(⟨0,[],0,0⟩,jP g)
 else if off<0\/4611686018427387903 - data.length<off then(⟨0,[],0,0⟩,6)
 else if (0<=g.ig/\(g.ig<off+data.length\/(fin=true/\off+data.length≠g.ig)))\/(fin=true/\off+data.length<mM g) then(⟨0,[],0,0⟩,12)
 else if g.cK<off+data.length then(⟨0,[],0,0⟩,11)
 else if 4<(Ju (Jy g off data)).length then(⟨0,[],0,0⟩,8)
 else(⟨g.fN,Ju (Jy g off data),if fin=true then off+data.length else g.ig,g.cK⟩,0)
def Xj (off:Int) (n:Nat) (x:Int×Bool×List dH):Prop:=
 off<=x.1/\x.1<=4611686018427387903/\x.2.2.length<=2 * n/\qs x.2.2<=33554432 * n /\ ∀ p ∈ x.2.2,Jv p
def nC:Int->List UInt8->List (Int×UInt8)
 | _,[]=>[]
 | o,c :: d=>(o,c) :: nC (o+1) d
def uJ (l:List dH):List (Int×UInt8):=l.flatMap (fun p=>nC p.bI p.Data)
def one (y:Int×UInt8):dH:=⟨y.1,[y.2]⟩
def Rr (l:List (Int×UInt8)):Prop:=l.Pairwise (fun a b=>a.1<b.1)
def Rs:Int->List dH->Prop
 | _,[]=>True
 | e,p :: l=>p.Data≠[]/\e<=p.bI/\Rs (p.bI+p.Data.length) l
def Rt (h:List dH) (off Az:Int) (data:List UInt8) (y:Int×UInt8):Prop:=y ∈ uJ h\/(y ∈ nC off data/\Az<=y.1 /\ ∀ z ∈ uJ h,z.1≠y.1)
structure Xk (h:List dH) (off Az:Int) (data:List UInt8) (e:Int) (x:Int×Bool×List dH):Prop where
 qt:Rr (uJ x.2.2)
 lt:∀ y ∈ uJ x.2.2,y.1<e
 at_:x.1=max (max off Az) e
 put:x.2.1=true->off+data.length<=x.1
 ne:∀ p ∈ x.2.2,p.Data≠[]
 mem:∀ y:Int×UInt8,y ∈ uJ x.2.2 ↔ y.1<e/\Rt h off Az data y
def Jz (x:Int) (c:UInt8):List (Int×UInt8)->List (Int×UInt8)
 | []=>[(x,c)]
 | p :: r=>if x=p.1 then(x,c) :: r else p :: Jz x c r
def JA (x:Int):List (Int×UInt8)->Option UInt8
 | []=>none
 | p :: r=>if x=p.1 then some p.2 else JA x r
def Ru:List (Int×UInt8)->List (Int×UInt8)->List (Int×UInt8)
 | M,[]=>M
 | M,y :: l=>Ru (Jz y.1 y.2 M) l
abbrev Xl (l:List (Int×UInt8)):List Int:=l.map (·.1)
def Xm (g:fE) (off:Int) (data:List UInt8):List (Int×UInt8):=(nC off data).filter (fun y=>decide (g.fN<=y.1))++uJ g.cI
end
section
open Go.Shelf
def Xn:Go.Shelf.Ren:=⟨fun|191=>263|189=>298|125=>312|257=>314|128=>324|129=>325|294=>334|295=>335|296=>336|297=>337|298=>338|299=>339|216=>340|300=>341|301=>342|328=>348|329=>349|330=>350|331=>351|332=>352|215=>353|343=>355|n=>n,fun|28=>41|0=>0|3=>3|46=>238|51=>368|53=>22|4=>4|183=>380|182=>379|131=>376|5=>5|9=>9|218=>391|222=>389|228=>397|229=>395|n=>n,fun|n=>n⟩
end
section
open Go.Shelf Go.RowKit Go.Lib Go.Sort
set_option maxRecDepth 100000
attribute [local irreducible] cq a8 bw GStep Fn cu bk cU
noncomputable def Xo (l:List Int):List Int:=l.mergeSort fun x y=>decide (x<=y)
end
section
set_option maxRecDepth 100000
def Xp (y:Int×UInt8):Value×Value:=(.int .i64 y.1,.int .u8 (y.2.toNat:Int))
def Xq (M:List (Int×UInt8)) (x:Int):UInt8:=(JA x M).getD 0
theorem JB:∀ {l:List dH} {B:Nat},(∀ p ∈ l,p.Data.length<=B)->qs l<=B * l.length
 | [],_,_=>Nat.zero_le _
 | p :: l,B,h=>by
  have I:=h p List.mem_cons_self
  have J:=JB (fun q hq=>h q (List.mem_cons_of_mem _ hq))
  have:B * (l.length+1)=B * l.length+B:=Nat.mul_succ _ _
  unfold qs
  rw[List.length_cons];omega
def Xr (P:List Int) (k:Nat):Option (List dH×dH)->Prop
 | none=>k=0
 | some (L,q)=>1<=k/\L.length+1<=k/\q.Data.length<=k/\P.getD (k - 1) default=q.bI+q.Data.length - 1/\1<=q.Data.length
theorem JC:∀ {l:List dH} {p:dH},p ∈ l->p.Data.length<=qs l
 | [],p,h=>by cases h
 | q :: l,p,h=>by
  unfold qs
  rcases List.mem_cons.1 h with rfl|h
  ·omega
  ·have:=JC h;omega
end
section
set_option maxRecDepth 100000
attribute [local irreducible] cq a8 bw GStep Fn cu bk
def Xs (l:List dH):Prop:=∀ k,k+1<l.length->(l.getD k default).bI+(l.getD k default).Data.length<(l.getD (k+1) default).bI
def PG (g:fE) (n:Int):fE×Int:=if jP g≠0 then(⟨0,[],0,0⟩,jP g) else if 4611686018427387903<n then(⟨0,[],0,0⟩,6) else(⟨g.fN,g.cI,g.ig,max g.cK n⟩,0)
def zw (g:fE):fE×List UInt8×Bool×Int:=
 if jP g≠0 then(⟨0,[],0,0⟩,[],false,jP g)
 else if 0<g.cI.length/\(g.cI.getD 0 default).bI=g.fN then(⟨g.fN+(g.cI.getD 0 default).Data.length,g.cI.drop 1,g.ig,g.cK⟩,(g.cI.getD 0 default).Data,decide (g.fN+(g.cI.getD 0 default).Data.length=g.ig),0)
 else(g,[],decide (g.fN=g.ig),0)
def Xt (r:fE×List UInt8×Bool×Int):V:=.b0 [.agg (l9 r.1),.ro (r.2.1.map aC),.lit (.bool r.2.2.1),.lit (.int .i64 r.2.2.2)]
end
section
set_option maxRecDepth 100000
def JD:List dH->Prop
 | []=>True
 | [_]=>True
 | p :: q :: r=>p.bI+p.Data.length≠q.bI/\JD (q :: r)
def Xu (x:Option (List dH×dH)):Prop:=JD (Ee x) /\ ∀ p ∈ Ee x,p.Data≠[]
theorem JE {g:fE} (h:jP g=0):mb g /\ ∃ b,jn true g.fN g.cI=some b/\b<=g.cK/\(g.ig<0\/b<=g.ig):=by
 unfold jP at h
 split at h
 ·rename_i hc
  refine ⟨hc.1,?_⟩
  cases he:jn true g.fN g.cI with
  | none=>rw[he] at hc;exact absurd hc.2 (by simp[qb])
  | some b=>
   rw[he] at hc
   have:=hc.2
   unfold qb at this
   simp at this
   exact⟨b,rfl,this.1,this.2⟩
 ·cases h
end
section
set_option maxRecDepth 100000
attribute [local irreducible] cq a8 bw GStep Fn cu bk cU
theorem ql (n size:Nat) (ap:size<=100):Fn Tryz.prog 172 [.lit (.int .u64 n),.lit (.int .i64 size)] (.lit (.string (bZ (c5 n size)))):=by
 refine aU ae Tryz.func172 rfl ae ?_
 (repeat' first|(refine ab ?_;((repeat' first|exact True.intro|refine R.mk ?_ ?_);all_goals intros))|fail "")
 refine b2 (fun k:Nat=>⟨[(0,.lit (.int .u64 ((n / 256 ^ k:Nat):Int))),(5,.lit (.string (bZ (c5 n k)))),(6,.lit (.int .i64 size)),(7,.lit (.int .i64 k))],[],0,Tryz.f172.ntmps⟩)
  (fun k=>k<=size) (fun k=>size - k) 0 (by omega) gf ?_
 intro k ag
 have aq:=iL n k
 have e:=CA n k
 by_cases aJ:k<size
 ·(repeat' first|(refine s3 (l:=[UInt8.ofNat (n / 256 ^ k)]) (hv:=?_) (h:=?_);(focus exact N7 n k))|(refine dS (r:=c5 n (k+1)) ?_ ?_ (h:=?_);(focus (first|rfl|(simp;done)));(exact bP))|(refine dT (r:=c5 n (k+1)) ?_ ?_ (h:=?_);(focus (first|rfl|(simp;done)));(exact bP))|(refine fc ?_;((repeat' first|exact True.intro|refine R.mk ?_ ?_);all_goals intros))|refine bB (h:=?_)|refine bB (hq:=eo rfl rfl rfl ew ey rfl rfl rfl rfl) (h:=?_)|refine da (h:=?_)|refine dJ (h:=?_)|refine ep (h:=?_)|refine ez (h:=?_)|refine eA (h:=?_)|refine eB (h:=?_)|refine eC (h:=?_)|refine eD (h:=?_)|(refine dS rfl ?_ (h:=?_);(exact bP))|(refine dT rfl ?_ (h:=?_);(exact bP))|fail "")
  all_goals (rw[e];(refine ⟨k+1,?_,?_,?_⟩;rotate_left 2;(exact ax);(exact bN);(exact bN)))
 ·have:k=size:=by omega
  subst this
  (repeat' first|(refine ab ?_;((repeat' first|exact True.intro|refine R.mk ?_ ?_);all_goals intros))|fail "")
  all_goals exact bt (hr:=rfl)
theorem D6 (n:Nat):Fn Tryz.prog 172 [.lit (.int .u64 n),.lit (.int .i64 8)] (.lit (.string (bZ (c5 n 8)))):=ql n 8 (by omega)
theorem JF {k:IntKind} (w a b:Nat) (hb:b<2 ^ w) (ap:2 ^ w * a+b<2 ^ k.bits):(BitVec.ofInt k.bits ((2 ^ w * a:Nat):Int) ||| BitVec.ofInt k.bits (b:Int):BitVec k.bits).toNat=2 ^ w * a+b:=by
 rw[BitVec.toNat_or,BitVec.ofInt_natCast,BitVec.ofInt_natCast,BitVec.toNat_ofNat,BitVec.toNat_ofNat,Nat.mod_eq_of_lt (by omega),Nat.mod_eq_of_lt (by omega),<- Nat.two_pow_add_eq_or_of_lt hb]
theorem Pf (a b:Nat) (hb:b<256) (bj:a<18014398509481984):ee .or .i64 ((a * 256:Nat):Int) (b:Int)=((a * 256+b:Nat):Int):=by
 have:=JF (k:=.i64) 8 a b (by omega) (by show 2 ^ 8 * a+b<2 ^ 64;omega)
 unfold ee
 dsimp only
 rw[show a * 256=2 ^ 8 * a by omega,this,IntKind.wrap_i64]
 omega
theorem JG (w f n:Nat) (hf:f % 2 ^ w=0) (hn:n<2 ^ w) (ap:f+n<256):ee .or .u8 (f:Int) (n:Int)=((f+n:Nat):Int):=by
 have hd:2 ^ w * (f / 2 ^ w)=f:=by have:=Nat.div_add_mod f (2 ^ w);omega
 have:=JF (k:=.u8) w (f / 2 ^ w) n hn (by rw[hd];show f+n<2 ^ 8;omega)
 rw[hd] at this
 show IntKind.u8.wrap _=_
 rw[this,IntKind.wrap_u8]
 omega
def ia (a:Nat) (l:List UInt8):Nat:=l.foldl (fun a c=>a * 256+c.toNat) a
theorem Ph (a:Nat) (l:List UInt8) (c:UInt8):ia a (l++[c])=ia a l * 256+c.toNat:=by unfold ia;rw[List.foldl_append];rfl
theorem Rv (a:Nat) (l:List UInt8) (c:UInt8):ia a (c :: l)=ia (a * 256+c.toNat) l:=rfl
theorem Ef:∀ (l:List UInt8) (a:Nat),ia a l=a * 256 ^ l.length+q6 l
 | [],a=>by simp[ia,q6]
 | c :: l,a=>by
  rw[Rv,Ef l,show q6 (c :: l)=ia (0 * 256+c.toNat) l from rfl,Ef l,List.length_cons,Nat.pow_succ]
  simp only[Nat.zero_mul,Nat.zero_add,Nat.add_mul,Nat.add_assoc]
  rw[Nat.mul_assoc,Nat.mul_comm 256]
theorem C3 (a:Nat) (l:List UInt8):ia a l<(a+1) * 256 ^ l.length:=by
 rw[Ef,Nat.add_mul]
 have:=CB l.length l rfl
 omega
theorem Pe (n:Nat) (h:n<18014398509481984):IntKind.i64.wrap ((n:Int) * 2 ^ min (8:Int).toNat IntKind.i64.bits)=((n * 256:Nat):Int):=by
 rw[show(2:Int) ^ min (8:Int).toNat IntKind.i64.bits=256 from rfl,IntKind.wrap_i64]
 omega
end
end Go.Proofs.YtendheafcbickaaGreat
