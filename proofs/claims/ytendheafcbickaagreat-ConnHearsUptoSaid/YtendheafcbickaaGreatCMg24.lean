/-
  SEVERAL TEXTS IN ONE: each with its own comment.
-/
import Derived.Test.YtendheafcbickaaGreatCCnP
set_option linter.unusedVariables false
set_option linter.unusedSimpArgs false
set_option maxHeartbeats 16000000
namespace Go.Proofs.YtendheafcbickaaGreat
section
set_option maxRecDepth 100000
attribute [local irreducible] cE a6 bu GStep Fn cg bf cA
def ab0 (Ie:Bool) (now:Int):aG×Int:=if 0<=now/\now<=1099511627776 then(⟨Ie,⟨0,[],-1,[],[]⟩,⟨400,0,0,-1⟩,⟨700,0⟩,⟨700,0⟩,(if Ie=true then 4 else 0),(if Ie=true then 0 else 4),0,[],false,[],now,0,false,0⟩,0) else(default,6)
def ab1 (r:aG×Int):V:=.bN [.agg (cj r.1),I r.2]
def vu:ee:=⟨[],false,0,0,[],[],false,false⟩
theorem Ox (s:ee) (hw:hg s):Fn Tryz.prog 205 [.agg (fc s)] (.agg (fc s)):=by
 have ao:=hw.1;have hU:=hw.2.2.2.1;have iZ:=hw.2.2.2.2.2.1;refine aH Tryz.func205 ?_;(repeat' first|refine eP (s.Data.map bm) ?_|refine eP (s.cO.map aB) ?_|refine eP (s.cI.map aB) ?_|(refine ay ?_;(and_intros <;> intros))|fail)
 all_goals first|exact fq|skip
theorem V2 (s:ee) (hw:hg s) :
  cA Tryz.prog 205 [.agg (fc s)] [] 0 (.agg [.own 0,ab s.Fin,I s.Next,I s.Max,.own 1,.own 2,ab s.fo,ab s.Over]) [(0,some (.row 5 1 (s.Data.map bm))),(1,some (.row 146 2 (s.cO.map aB))),(2,some (.row 146 2 (s.cI.map aB)))] 3:=by
 have ao:=hw.1;have hU:=hw.2.2.2.1;have iZ:=hw.2.2.2.2.2.1;refine aH Tryz.func205 ?_;(repeat' first|refine eP (s.Data.map bm) ?_|refine eP (s.cO.map aB) ?_|refine eP (s.cI.map aB) ?_|(refine ay ?_;(and_intros <;> intros))|fail)
 all_goals first|exact nY|skip
noncomputable def Ig (s:ee) (b:List UInt8) (fin:Bool):ee×Int:=
 if lE s≠0 then(vu,lE s) else if s.Fin=true then(vu,17) else if 600<s.Data.length+b.length then(vu,8) else({ s with Data:=s.Data++b,Fin:=fin },0)
noncomputable def mE (s:ee) (n:Int):ee×Int:=
 if lE s≠0 then(vu,lE s) else if 0<=n/\n<=4611686018427387903 then({ s with Max:=max s.Max n },0) else(vu,6)
theorem SI (s:ee) (n:Int) (hw:hg s) (hn:aE n):Fn Tryz.prog 251 [.agg (fc s),I n] (.bN [.agg (fc (mE s n).1),I (mE s n).2]):=by
 have J:=CF s hw;have aa:=V2 s hw;clear hw;unfold aE at hn;unfold mE;rcases r6 s with⟨ai,bP⟩ | ⟨ai,re⟩
 ·rw[ai] at J;rw[ah (by omega)];clear bP ai;obtain ⟨data,f0,next,jy,lost,dO,hT,b8⟩:=s;dsimp only[fc] at *;by_cases ao:0<=n/\n<=4611686018427387903
  ·rw[al ao];refine aH Tryz.func251 ?_;(repeat' first|refine bh J ?_|(refine dL [] (aa) (h:=?_))|(refine fi [] (aa) (h:=?_))|(refine tj (aa) (h:=?_))|refine oQ [] (aa) (h:=?_)|(refine ay ?_;(and_intros <;> intros))|fail)
   all_goals first|exact fq|skip
  ·rw[ah ao];refine aH Tryz.func251 ?_;(refine bH J ?_;and_intros <;> intros)
   all_goals first|exact fq|skip
 ·rw[ai] at J ⊢;rw[al (by decide)];refine aH Tryz.func251 ?_;(refine bH J ?_;and_intros <;> intros)
  all_goals first|exact fq|skip
theorem SQ (s:ee) (n:Int) (hw:bT.hg s) (hn:aE n):Fn Tryz.prog 150 [.agg (fc s),I n] (.bN [.agg (fc (mE s n).1),I (mE s n).2]):=by
 have J:=Cc s hw;clear hw;unfold aE at hn;unfold mE;rcases r6 s with⟨ai,bP⟩ | ⟨ai,re⟩
 ·rw[ai] at J;rw[ah (by omega)];clear bP ai;obtain ⟨data,f0,next,jy,lost,dO,hT,b8⟩:=s;dsimp only[fc] at *;by_cases ao:0<=n/\n<=4611686018427387903
  ·rw[al ao,Int.max_comm];refine aH Tryz.func150 ?_;(refine rI ?_;and_intros <;> intros)
   all_goals first|exact fq|skip
  ·rw[ah ao];refine aH Tryz.func150 ?_;(refine rI ?_;and_intros <;> intros)
   all_goals first|exact fq|skip
 ·rw[ai] at J ⊢;rw[al (by decide)];refine aH Tryz.func150 ?_;(refine bH J ?_;and_intros <;> intros)
  all_goals first|exact fq|skip
def dw (c:aG) (i:Nat) (l:cS):aG:={ c with aq:=c.aq.set i l }
noncomputable def ab2 (c:aG) (id:Int) (b:List UInt8) (fin:Bool):aG×Int:=
 if nj c=0 then(if c.fj=true then(default,17) else if b7 c.aq id<c.aq.length then
  (if (Ig (c.aq.getD (b7 c.aq id) default).Out b fin).2=0 then(dw c (b7 c.aq id) { c.aq.getD (b7 c.aq id) default with Out:=(Ig (c.aq.getD (b7 c.aq id) default).Out b fin).1 },0) else(default,(Ig (c.aq.getD (b7 c.aq id) default).Out b fin).2)) else(default,5)) else(default,9)
theorem Dq (c:aG) (id:Int) (ao:c.aq.length<=1000000):Fn Tryz.prog 105 [.agg (cj c),I id] (I (if b7 c.aq id<c.aq.length then(b7 c.aq id:Int) else -1)):=by
 have hle:=q7 c.aq id;generalize iN:(if b7 c.aq id<c.aq.length then(b7 c.aq id:Int) else -1)=R;refine aH Tryz.func105 ?_;(try refine ay ?_;and_intros <;> intros);refine cv (fun k:Nat=>⟨[(1,I id),(8,.ro (c.aq.map eo)),(9,I c.aq.length),(10,I k)],[],0,Tryz.f105.ntmps⟩)
  (fun k=>k<=b7 c.aq id) (fun k=>c.aq.length - k) 0 (cm _) fP ?_
 intro k ag;by_cases au:k<c.aq.length
 ·by_cases he:(c.aq.getD k default).Id=id
  ·have U:=LX au ag he;rw[U,al au] at iN;subst iN;(try refine ay ?_;and_intros <;> intros)
   all_goals first|exact fq|skip
  ·have U:=LY au ag he;(try refine ay ?_;and_intros <;> intros)
   all_goals first
    | (exact⟨k+1,(by omega),U,ba⟩)
    | skip
 ·have ca:k=c.aq.length:=by omega
  rw[ah (by omega)] at iN;subst iN;(try refine ay ?_;and_intros <;> intros)
  all_goals first|exact fq|skip
theorem uB (c:aG) (i:Nat) (l:cS) (ao:c.aq.length<=1000000) (hi:i<c.aq.length):Fn Tryz.prog 107 [.agg (cj c),I i,.agg (eo l)] (.agg (cj (dw c i l))):=by
 unfold dw;generalize jU:cj { c with aq:=c.aq.set i l }=Z;unfold cj at jU;dsimp only at jU;subst jU;refine aH Tryz.func107 ?_;(repeat' first|refine eP (c.aq.map eo) ?_|(refine lT (r:=(c.aq.set i l).map eo) ?_ ?_ (h:=?_);(exact gX);(focus ((rw[gV eo hi,q3];rfl))))|(refine lU (r:=(c.aq.set i l).map eo) ?_ ?_ (h:=?_);(exact gX);(focus ((rw[gV eo hi,q3];rfl))))|(refine ay ?_;(and_intros <;> intros))|fail)
 all_goals first|exact fq|skip
end
end Go.Proofs.YtendheafcbickaaGreat
