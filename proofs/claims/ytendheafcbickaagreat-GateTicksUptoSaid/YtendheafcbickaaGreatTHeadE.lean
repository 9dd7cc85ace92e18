
import Derived.Test.YtendheafcbickaaGreatTZip
import Derived.Test.YtendheafcbickaaGreatTGo
import Derived.Test.YtendheafcbickaaGreatTMg25
set_option linter.unusedVariables false
set_option linter.unusedSimpArgs false
set_option maxHeartbeats 16000000
namespace Go.Proofs.YtendheafcbickaaGreat
set_option maxRecDepth 100000
attribute [local irreducible] cq a8 bw GStep Fn cu bk cU
def BZ (h:gy):List UInt8:=
 if h.Kind=2 then[UInt8.ofNat (63+h.fm.toNat),UInt8.ofNat h.gW.toNat]
 else(if h.Kind=0 then[UInt8.ofNat (191+h.fm.toNat),UInt8.ofNat h.gW.toNat,UInt8.ofNat h.hk.toNat] else[UInt8.ofNat 240,UInt8.ofNat h.gW.toNat,UInt8.ofNat h.hk.toNat])++(cM h.ky.length++h.ky)
def oA (h:gy):List UInt8:=BZ h++c5 h.Number.toNat h.fm.toNat
theorem yI {m:Nat} (h:m<256):aC (UInt8.ofNat m)=[.lit (.int .u8 (m:Int))]:=by
 rw[tV,IntKind.wrap_u8,Int.emod_eq_of_lt (by omega) (by omega)]
theorem Gz {p:List UInt8} {n s j:Nat} (ap:s<=8) (h:j<s):(p++(c5 n s).take j).map aC++[[.lit (.int .u8 (IntKind.u8.wrap ((n:Int).fdiv (2 ^ min (8 * ((s:Int) - 1 - (j:Int))).toNat IntKind.i64.bits))))]]=(p++(c5 n s).take (j+1)).map aC:=by
 rw[hy (by rw[iL];exact h),<- List.append_assoc,List.map_append (l₂:=[_]),List.map_cons,List.map_nil,yP n s j h,tV]
 rw[show min (8 * ((s:Int) - 1 - (j:Int))).toNat IntKind.i64.bits=8 * (s - 1 - j) by(show min (8 * ((s:Int) - 1 - (j:Int))).toNat 64=_;omega),tT,Nat.pow_mul]
theorem GA {h:gy} (af:kT h=0):(h.Kind=0\/h.Kind=1\/h.Kind=2)/\h.ky.length<=120/\(0<=h.gW/\h.gW<=255)/\(0<=h.hk/\h.hk<=255)/\0<=h.Number/\0<=h.fm/\h.fm<=4/\h.Number<4294967296/\(h.Kind=1->h.fm=0/\h.Number=0)/\(¬ h.Kind=1->1<=h.fm):=by
 unfold kT at af
 repeat (split at af;first|(cases af;done)|skip)
 ·refine ⟨by omega,by omega,by omega,by omega,by omega,by omega,by omega,by omega,fun _=>by omega,fun h=>by omega⟩
 ·have:256 ^ h.fm.toNat<=256 ^ 4:=Nat.pow_le_pow_right (by omega) (by omega)
  have bl:(256:Nat) ^ 4=4294967296:=by decide
  refine ⟨by omega,by omega,by omega,by omega,by omega,by omega,by omega,by omega,fun _=>by omega,fun h=>by omega⟩
 all_goals skip
theorem Pj (h:gy) (hw:mK h) (af:kT h=0):cU Tryz.prog 214 [.agg (k7 h)] [] 0 (.b0 [.own 0,.lit (.int .i64 0)]) [(0,some (.row 5 1 ((oA h).map aC)))] 1:=by
 have I:=I1 h hw
 rw[af] at I
 obtain ⟨g1,g2,g3,g4,g5,g6,g7,g8,g9,g10⟩:=GA af
 clear af hw
 unfold oA BZ
 obtain ⟨K,T,F,tok,N,S⟩:=h
 dsimp only at *
 obtain ⟨s,rfl⟩:=Int.eq_ofNat_of_zero_le g6
 obtain ⟨n,rfl⟩:=Int.eq_ofNat_of_zero_le g5
 obtain ⟨t,rfl⟩:=Int.eq_ofNat_of_zero_le g3.1
 obtain ⟨f,rfl⟩:=Int.eq_ofNat_of_zero_le g4.1
 simp only[Int.toNat_natCast]
 have hv:=I4 tok.length (by omega)
 have Ng:=An tok.length
 have Nh:=rF tok.length
 have aS:=yI (m:=t) (by omega)
 have aK:=yI (m:=f) (by omega)
 have fX:k7 ⟨K,t,f,tok,n,s⟩=[.lit (.int .i64 K),.lit (.int .i64 t),.lit (.int .i64 f),.ro (tok.map aC),.lit (.int .i64 n),.lit (.int .i64 s)]:=rfl
 rw[fX] at I ⊢
 rcases g1 with rfl|rfl|rfl
 ·rw[if_neg (by omega),if_pos rfl]
  have g10:=g10 (by omega)
  have aX:=yI (m:=191+s) (by omega)
  have aH:=JG 2 192 (s - 1) (by decide) (by omega) (by omega)
  rw[show((192:Nat):Int)=192 from rfl,show((s - 1:Nat):Int)=(s:Int) - 1 by omega,show 192+(s - 1)=191+s by omega] at aH
  have yJ:[[V.lit (.int .u8 (ee .or .u8 192 ((s:Int) - 1)))],[V.lit (.int .u8 (t:Int))],[V.lit (.int .u8 (f:Int))]]=[UInt8.ofNat (191+s),UInt8.ofNat t,UInt8.ofNat f].map aC:=by simp only[List.map_cons,List.map_nil,aS,aK,aX,aH]
  generalize cM tok.length=v at *
  refine gG ae Tryz.func214 rfl ae (by rfl) ?_
  (repeat' first|(refine ar (I) (h:=?_))|(refine au (I) (h:=?_))|(refine ar (hv) (h:=?_))|(refine au (hv) (h:=?_))|(refine F3 (r:=[UInt8.ofNat (191+s),UInt8.ofNat t,UInt8.ofNat f].map aC) (hr:=?_) (h:=?_);(focus (exact yJ)))|(refine cx (r:=([UInt8.ofNat (191+s),UInt8.ofNat t,UInt8.ofNat f]++v).map aC) ?_ ?_ ?_ ?_ (h:=?_);(exact nV);(exact al);(exact an);(exact ao))|(refine cD (r:=([UInt8.ofNat (191+s),UInt8.ofNat t,UInt8.ofNat f]++v).map aC) ?_ ?_ ?_ ?_ (h:=?_);(exact nV);(exact al);(exact an);(exact ao))|(refine cE (r:=([UInt8.ofNat (191+s),UInt8.ofNat t,UInt8.ofNat f]++v).map aC) ?_ ?_ ?_ ?_ (h:=?_);(exact nV);(exact al);(exact an);(exact ao))|(refine cF (r:=([UInt8.ofNat (191+s),UInt8.ofNat t,UInt8.ofNat f]++v).map aC) ?_ ?_ ?_ ?_ (h:=?_);(exact nV);(exact al);(exact an);(exact ao))|(refine cx (r:=([UInt8.ofNat (191+s),UInt8.ofNat t,UInt8.ofNat f]++v++tok).map aC) ?_ ?_ ?_ ?_ (h:=?_);(exact ru);(exact al);(exact an);(exact ao))|(refine cD (r:=([UInt8.ofNat (191+s),UInt8.ofNat t,UInt8.ofNat f]++v++tok).map aC) ?_ ?_ ?_ ?_ (h:=?_);(exact ru);(exact al);(exact an);(exact ao))|(refine cE (r:=([UInt8.ofNat (191+s),UInt8.ofNat t,UInt8.ofNat f]++v++tok).map aC) ?_ ?_ ?_ ?_ (h:=?_);(exact ru);(exact al);(exact an);(exact ao))|(refine cF (r:=([UInt8.ofNat (191+s),UInt8.ofNat t,UInt8.ofNat f]++v++tok).map aC) ?_ ?_ ?_ ?_ (h:=?_);(exact ru);(exact al);(exact an);(exact ao))|(refine fc ?_;((repeat' first|exact True.intro|refine R.mk ?_ ?_);all_goals intros))|refine bB (h:=?_)|refine bB (hq:=eo rfl rfl rfl ew ey rfl rfl rfl rfl) (h:=?_)|refine da (h:=?_)|refine dJ (h:=?_)|refine ep (h:=?_)|refine ez (h:=?_)|refine eA (h:=?_)|refine eB (h:=?_)|refine eC (h:=?_)|refine eD (h:=?_)|(refine dS rfl ?_ (h:=?_);(exact bP))|(refine dT rfl ?_ (h:=?_);(exact bP))|fail "")
  rw[<- List.append_assoc]
  generalize aw:[UInt8.ofNat (191+s),UInt8.ofNat t,UInt8.ofNat f]++v++tok=p at *
  have ix:p.length<=200:=by rw[<- aw];simp only[List.length_append,List.length_cons,List.length_nil];omega
  have iP:=iL n s
  refine b2 (fun j:Nat=>⟨[(1,.ptr 0 0 0 0),(5,.own 1),(8,.lit (.int .i64 ((s:Int) - 1 - j)))],[(0,some (.box 138 [.lit (.int .i64 0),.lit (.int .i64 t),.lit (.int .i64 f),.ro (tok.map aC),.lit (.int .i64 n),.lit (.int .i64 s)])),(1,some (.row 5 1 ((p++(c5 n s).take j).map aC)))],2,Tryz.f214.ntmps⟩)
   (fun j=>j<=s) (fun j=>s - j) 0 (Nat.zero_le _) yU ?_
  intro j ah
  have qV:((c5 n s).take j).length=j:=by rw[List.length_take];omega
  by_cases tR:j<s
  ·have e:=Gz (p:=p) (n:=n) (s:=s) (by omega) tR
   have BO:(s:Int) - 1 - (j:Int)=((s - 1 - j:Nat):Int):=by omega
   (repeat' first|(refine cx (r:=(p++(c5 n s).take (j+1)).map aC) ?_ ?_ ?_ ?_ (h:=?_);(exact ly);(exact al);(exact an);(exact ao))|(refine cD (r:=(p++(c5 n s).take (j+1)).map aC) ?_ ?_ ?_ ?_ (h:=?_);(exact ly);(exact al);(exact an);(exact ao))|(refine cE (r:=(p++(c5 n s).take (j+1)).map aC) ?_ ?_ ?_ ?_ (h:=?_);(exact ly);(exact al);(exact an);(exact ao))|(refine cF (r:=(p++(c5 n s).take (j+1)).map aC) ?_ ?_ ?_ ?_ (h:=?_);(exact ly);(exact al);(exact an);(exact ao))|(refine ab ?_;((repeat' first|exact True.intro|refine R.mk ?_ ?_);all_goals intros))|fail "")
   all_goals (refine ⟨j+1,?_,?_,?_⟩;rotate_left 2;(exact ax);(exact bN);(exact bN))
  ·have:j=s:=by omega
   subst this
   rw[List.take_of_length_le (by omega)]
   (repeat' first|(refine ab ?_;((repeat' first|exact True.intro|refine R.mk ?_ ?_);all_goals intros))|fail "")
   all_goals (exact fg)
 ·rw[if_neg (by omega),if_neg (by omega)]
  obtain ⟨aT,a1⟩:=g9 rfl
  obtain rfl:s=0:=by omega
  obtain rfl:n=0:=by omega
  have aX:=yI (m:=240) (by omega)
  have yJ:[[V.lit (.int .u8 240)],[V.lit (.int .u8 (t:Int))],[V.lit (.int .u8 (f:Int))]]=[UInt8.ofNat 240,UInt8.ofNat t,UInt8.ofNat f].map aC:=by simp only[List.map_cons,List.map_nil,aS,aK,aX];rfl
  generalize cM tok.length=v at *
  refine gG ae Tryz.func214 rfl ae (by rfl) ?_
  (repeat' first|(refine ar (I) (h:=?_))|(refine au (I) (h:=?_))|(refine ar (hv) (h:=?_))|(refine au (hv) (h:=?_))|(refine F3 (r:=[UInt8.ofNat 240,UInt8.ofNat t,UInt8.ofNat f].map aC) (hr:=?_) (h:=?_);(focus (exact yJ)))|(refine cx (r:=([UInt8.ofNat 240,UInt8.ofNat t,UInt8.ofNat f]++v).map aC) ?_ ?_ ?_ ?_ (h:=?_);(exact nV);(exact al);(exact an);(exact ao))|(refine cD (r:=([UInt8.ofNat 240,UInt8.ofNat t,UInt8.ofNat f]++v).map aC) ?_ ?_ ?_ ?_ (h:=?_);(exact nV);(exact al);(exact an);(exact ao))|(refine cE (r:=([UInt8.ofNat 240,UInt8.ofNat t,UInt8.ofNat f]++v).map aC) ?_ ?_ ?_ ?_ (h:=?_);(exact nV);(exact al);(exact an);(exact ao))|(refine cF (r:=([UInt8.ofNat 240,UInt8.ofNat t,UInt8.ofNat f]++v).map aC) ?_ ?_ ?_ ?_ (h:=?_);(exact nV);(exact al);(exact an);(exact ao))|(refine cx (r:=([UInt8.ofNat 240,UInt8.ofNat t,UInt8.ofNat f]++v++tok).map aC) ?_ ?_ ?_ ?_ (h:=?_);(exact ru);(exact al);(exact an);(exact ao))|(refine cD (r:=([UInt8.ofNat 240,UInt8.ofNat t,UInt8.ofNat f]++v++tok).map aC) ?_ ?_ ?_ ?_ (h:=?_);(exact ru);(exact al);(exact an);(exact ao))|(refine cE (r:=([UInt8.ofNat 240,UInt8.ofNat t,UInt8.ofNat f]++v++tok).map aC) ?_ ?_ ?_ ?_ (h:=?_);(exact ru);(exact al);(exact an);(exact ao))|(refine cF (r:=([UInt8.ofNat 240,UInt8.ofNat t,UInt8.ofNat f]++v++tok).map aC) ?_ ?_ ?_ ?_ (h:=?_);(exact ru);(exact al);(exact an);(exact ao))|(refine fc ?_;((repeat' first|exact True.intro|refine R.mk ?_ ?_);all_goals intros))|refine bB (h:=?_)|refine bB (hq:=eo rfl rfl rfl ew ey rfl rfl rfl rfl) (h:=?_)|refine da (h:=?_)|refine dJ (h:=?_)|refine ep (h:=?_)|refine ez (h:=?_)|refine eA (h:=?_)|refine eB (h:=?_)|refine eC (h:=?_)|refine eD (h:=?_)|(refine dS rfl ?_ (h:=?_);(exact bP))|(refine dT rfl ?_ (h:=?_);(exact bP))|fail "")
  rw[<- List.append_assoc]
  generalize aw:[UInt8.ofNat 240,UInt8.ofNat t,UInt8.ofNat f]++v++tok=p at *
  have ix:p.length<=200:=by rw[<- aw];simp only[List.length_append,List.length_cons,List.length_nil];omega
  have iP:=iL 0 0
  refine b2 (fun j:Nat=>⟨[(1,.ptr 0 0 0 0),(5,.own 1),(8,.lit (.int .i64 (((0:Nat):Int) - 1 - j)))],[(0,some (.box 138 [.lit (.int .i64 1),.lit (.int .i64 t),.lit (.int .i64 f),.ro (tok.map aC),.lit (.int .i64 ((0:Nat):Int)),.lit (.int .i64 ((0:Nat):Int))])),(1,some (.row 5 1 ((p++(c5 0 0).take j).map aC)))],2,Tryz.f214.ntmps⟩)
   (fun j=>j<=0) (fun j=>0 - j) 0 (Nat.zero_le _) yU ?_
  intro j ah
  have qV:((c5 0 0).take j).length=j:=by rw[List.length_take];omega
  by_cases tR:j<0
  ·have e:=Gz (p:=p) (n:=0) (s:=0) (by omega) tR
   have BO:((0:Nat):Int) - 1 - (j:Int)=((0 - 1 - j:Nat):Int):=by omega
   (repeat' first|(refine cx (r:=(p++(c5 0 0).take (j+1)).map aC) ?_ ?_ ?_ ?_ (h:=?_);(exact ly);(exact al);(exact an);(exact ao))|(refine cD (r:=(p++(c5 0 0).take (j+1)).map aC) ?_ ?_ ?_ ?_ (h:=?_);(exact ly);(exact al);(exact an);(exact ao))|(refine cE (r:=(p++(c5 0 0).take (j+1)).map aC) ?_ ?_ ?_ ?_ (h:=?_);(exact ly);(exact al);(exact an);(exact ao))|(refine cF (r:=(p++(c5 0 0).take (j+1)).map aC) ?_ ?_ ?_ ?_ (h:=?_);(exact ly);(exact al);(exact an);(exact ao))|(refine ab ?_;((repeat' first|exact True.intro|refine R.mk ?_ ?_);all_goals intros))|fail "")
   all_goals (refine ⟨j+1,?_,?_,?_⟩;rotate_left 2;(exact ax);(exact bN);(exact bN))
  ·have:j=0:=by omega
   subst this
   rw[List.take_of_length_le (by omega)]
   (repeat' first|(refine ab ?_;((repeat' first|exact True.intro|refine R.mk ?_ ?_);all_goals intros))|fail "")
   all_goals (exact fg)
 ·rw[if_pos rfl]
  have g10:=g10 (by omega)
  have aX:=yI (m:=63+s) (by omega)
  have aH:=JG 2 64 (s - 1) (by decide) (by omega) (by omega)
  rw[show((64:Nat):Int)=64 from rfl,show((s - 1:Nat):Int)=(s:Int) - 1 by omega,show 64+(s - 1)=63+s by omega] at aH
  have yJ:[[V.lit (.int .u8 (ee .or .u8 64 ((s:Int) - 1)))],[V.lit (.int .u8 (t:Int))]]=[UInt8.ofNat (63+s),UInt8.ofNat t].map aC:=by simp only[List.map_cons,List.map_nil,aS,aX,aH]
  refine gG ae Tryz.func214 rfl ae (by rfl) ?_
  (repeat' first|(refine ar (I) (h:=?_))|(refine au (I) (h:=?_))|(refine F3 (r:=[UInt8.ofNat (63+s),UInt8.ofNat t].map aC) (hr:=?_) (h:=?_);(focus (exact yJ)))|(refine fc ?_;((repeat' first|exact True.intro|refine R.mk ?_ ?_);all_goals intros))|refine bB (h:=?_)|refine bB (hq:=eo rfl rfl rfl ew ey rfl rfl rfl rfl) (h:=?_)|refine da (h:=?_)|refine dJ (h:=?_)|refine ep (h:=?_)|refine ez (h:=?_)|refine eA (h:=?_)|refine eB (h:=?_)|refine eC (h:=?_)|refine eD (h:=?_)|(refine dS rfl ?_ (h:=?_);(exact bP))|(refine dT rfl ?_ (h:=?_);(exact bP))|fail "")
  generalize aw:[UInt8.ofNat (63+s),UInt8.ofNat t]=p at *
  have ix:p.length<=200:=by rw[<- aw];simp only[List.length_append,List.length_cons,List.length_nil];omega
  have iP:=iL n s
  refine b2 (fun j:Nat=>⟨[(1,.ptr 0 0 0 0),(5,.own 1),(8,.lit (.int .i64 ((s:Int) - 1 - j)))],[(0,some (.box 138 [.lit (.int .i64 2),.lit (.int .i64 t),.lit (.int .i64 f),.ro (tok.map aC),.lit (.int .i64 n),.lit (.int .i64 s)])),(1,some (.row 5 1 ((p++(c5 n s).take j).map aC)))],2,Tryz.f214.ntmps⟩)
   (fun j=>j<=s) (fun j=>s - j) 0 (Nat.zero_le _) yU ?_
  intro j ah
  have qV:((c5 n s).take j).length=j:=by rw[List.length_take];omega
  by_cases tR:j<s
  ·have e:=Gz (p:=p) (n:=n) (s:=s) (by omega) tR
   have BO:(s:Int) - 1 - (j:Int)=((s - 1 - j:Nat):Int):=by omega
   (repeat' first|(refine cx (r:=(p++(c5 n s).take (j+1)).map aC) ?_ ?_ ?_ ?_ (h:=?_);(exact ly);(exact al);(exact an);(exact ao))|(refine cD (r:=(p++(c5 n s).take (j+1)).map aC) ?_ ?_ ?_ ?_ (h:=?_);(exact ly);(exact al);(exact an);(exact ao))|(refine cE (r:=(p++(c5 n s).take (j+1)).map aC) ?_ ?_ ?_ ?_ (h:=?_);(exact ly);(exact al);(exact an);(exact ao))|(refine cF (r:=(p++(c5 n s).take (j+1)).map aC) ?_ ?_ ?_ ?_ (h:=?_);(exact ly);(exact al);(exact an);(exact ao))|(refine ab ?_;((repeat' first|exact True.intro|refine R.mk ?_ ?_);all_goals intros))|fail "")
   all_goals (refine ⟨j+1,?_,?_,?_⟩;rotate_left 2;(exact ax);(exact bN);(exact bN))
  ·have:j=s:=by omega
   subst this
   rw[List.take_of_length_le (by omega)]
   (repeat' first|(refine ab ?_;((repeat' first|exact True.intro|refine R.mk ?_ ?_);all_goals intros))|fail "")
   all_goals (exact fg)
theorem Pl (h:gy) (hw:mK h) (af:¬ kT h=0):Fn Tryz.prog 214 [.agg (k7 h)] (.b0 [.ro [],.lit (.int .i64 (kT h))]):=by
 have I:=I1 h hw
 generalize kT h=q at *
 refine aU ae Tryz.func214 rfl ae ?_
 (repeat' first|(refine ar (I) (h:=?_))|(refine au (I) (h:=?_))|(refine ab ?_;((repeat' first|exact True.intro|refine R.mk ?_ ?_);all_goals intros))|fail "")
 all_goals (exact bD)
theorem WN (m:Nat):c5 m 1=[UInt8.ofNat m]:=by simp[c5]
theorem yK (m:Nat):Fn Tryz.prog 172 [.lit (.int .u64 (m:Int)),.lit (.int .i64 1)] (.lit (.string (bZ [UInt8.ofNat m]))):=by
 have:=ql m 1 (by omega)
 rw[WN] at this
 exact this
theorem QF (h:gy) (af:kT h=0):Fn Tryz.prog 191 [.agg (k7 h)] (.lit (.string (bZ (oA h)))):=by
 obtain ⟨g1,g2,g3,g4,g5,g6,g7,g8,g9,g10⟩:=GA af
 clear af
 unfold oA BZ
 obtain ⟨K,T,F,tok,N,S⟩:=h
 dsimp only at *
 obtain ⟨s,rfl⟩:=Int.eq_ofNat_of_zero_le g6
 obtain ⟨n,rfl⟩:=Int.eq_ofNat_of_zero_le g5
 obtain ⟨t,rfl⟩:=Int.eq_ofNat_of_zero_le g3.1
 obtain ⟨f,rfl⟩:=Int.eq_ofNat_of_zero_le g4.1
 simp only[Int.toNat_natCast]
 have hv:=I6 tok.length (by omega)
 have Ng:=An tok.length
 have Nh:=rF tok.length
 have b3:=yK t
 have dw:=yK f
 have qm:=ql n s (by omega)
 have iP:=iL n s
 have fX:k7 ⟨K,t,f,tok,n,s⟩=[.lit (.int .i64 K),.lit (.int .i64 t),.lit (.int .i64 f),.ro (tok.map aC),.lit (.int .i64 n),.lit (.int .i64 s)]:=rfl
 rw[fX]
 generalize c5 n s=w at *
 rcases g1 with rfl|rfl|rfl
 ·rw[if_neg (by omega),if_pos rfl]
  have g10:=g10 (by omega)
  have pn:Fn Tryz.prog 172 [.lit (.int .u64 (191+(s:Int))),.lit (.int .i64 1)] (.lit (.string (bZ [UInt8.ofNat (191+s)]))):=by
   have:=yK (191+s);rw[show((191+s:Nat):Int)=191+(s:Int) by omega] at this;exact this
  generalize cM tok.length=v at *
  refine aU ae Tryz.func191 rfl ae ?_
  (repeat' first|(refine ar (pn) (h:=?_))|(refine au (pn) (h:=?_))|(refine ar (b3) (h:=?_))|(refine au (b3) (h:=?_))|(refine ar (dw) (h:=?_))|(refine au (dw) (h:=?_))|(refine ar (qm) (h:=?_))|(refine au (qm) (h:=?_))|(refine ar (hv) (h:=?_))|(refine au (hv) (h:=?_))|(refine sW (r:=(.int .i64 (191+(s:Int)))) ?_ (h:=?_);(focus (rfl)))|(refine ab ?_;((repeat' first|exact True.intro|refine R.mk ?_ ?_);all_goals intros))|fail "")
  all_goals first
   | exact bt (hr:=rfl)
   | skip
 ·rw[if_neg (by omega),if_neg (by omega)]
  have pn:Fn Tryz.prog 172 [.lit (.int .u64 240),.lit (.int .i64 1)] (.lit (.string (bZ [UInt8.ofNat 240]))):=yK 240
  generalize cM tok.length=v at *
  obtain ⟨aT,a1⟩:=g9 rfl
  refine aU ae Tryz.func191 rfl ae ?_
  (repeat' first|(refine ar (pn) (h:=?_))|(refine au (pn) (h:=?_))|(refine ar (b3) (h:=?_))|(refine au (b3) (h:=?_))|(refine ar (dw) (h:=?_))|(refine au (dw) (h:=?_))|(refine ar (qm) (h:=?_))|(refine au (qm) (h:=?_))|(refine ar (hv) (h:=?_))|(refine au (hv) (h:=?_))|(refine sW (r:=(.int .i64 240)) ?_ (h:=?_);(focus (rfl)))|(refine ab ?_;((repeat' first|exact True.intro|refine R.mk ?_ ?_);all_goals intros))|fail "")
  all_goals first
   | exact bt (hr:=rfl)
   | skip
 ·rw[if_pos rfl]
  have g10:=g10 (by omega)
  have pn:Fn Tryz.prog 172 [.lit (.int .u64 (63+(s:Int))),.lit (.int .i64 1)] (.lit (.string (bZ [UInt8.ofNat (63+s)]))):=by
   have:=yK (63+s);rw[show((63+s:Nat):Int)=63+(s:Int) by omega] at this;exact this
  refine aU ae Tryz.func191 rfl ae ?_
  (repeat' first|(refine ar (pn) (h:=?_))|(refine au (pn) (h:=?_))|(refine ar (b3) (h:=?_))|(refine au (b3) (h:=?_))|(refine ar (qm) (h:=?_))|(refine au (qm) (h:=?_))|(refine sW (r:=(.int .i64 (63+(s:Int)))) ?_ (h:=?_);(focus (rfl)))|(refine ab ?_;((repeat' first|exact True.intro|refine R.mk ?_ ?_);all_goals intros))|fail "")
  all_goals first
   | exact bt (hr:=rfl)
   | skip
theorem HM {h:gy} (af:kT h=0):(oA h).length<=200:=by
 obtain ⟨g1,g2,g3,g4,g5,g6,g7,g8,g9,g10⟩:=GA af
 have Ng:=An h.ky.length
 have Nh:=rF h.ky.length
 unfold oA BZ
 rw[List.length_append,iL]
 split
 ·simp only[List.length_cons,List.length_nil];omega
 ·split
  ·simp only[List.length_append,List.length_cons,List.length_nil];omega
  ·simp only[List.length_append,List.length_cons,List.length_nil];omega
end Go.Proofs.YtendheafcbickaaGreat
