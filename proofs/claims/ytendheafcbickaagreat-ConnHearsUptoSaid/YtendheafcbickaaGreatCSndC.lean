
import Derived.Test.YtendheafcbickaaGreatCSnd
set_option linter.unusedVariables false
set_option linter.unusedSimpArgs false
set_option maxHeartbeats 16000000
namespace Go.Proofs.YtendheafcbickaaGreat
set_option maxRecDepth 100000
attribute [local irreducible] cE a6 bu GStep Fn cg bf
def Dm (fin hT b8:Bool):Bool:=(fin || (!hT && !b8)) && !(hT && b8)
def oh (s:ee):Prop:=s.Data.length<=600/\0<=s.Next/\s.Next<=s.Data.length/\s.Next<=s.Max/\s.Max<=4611686018427387903/\gi s.cO=0/\gi s.cI=0/\Dm s.Fin s.fo s.Over=true/\((s.fo || s.Over)=true->s.Next=s.Data.length)
def tF (n:Int) (l:List aK):Prop:=0<l.length->(l.getD (l.length - 1) default).bz<n
def mM (s:ee):Prop:=((oh s/\tF s.Next s.cO)/\tF s.Next s.cI)/\BG s.cO s.cI
noncomputable def lE (s:ee):Int:=if yes (mM s)=true then 0 else 9
theorem HY {s:ee} (h:mM s):lE s=0:=al (j6 h)
theorem vj {s:ee} (h:¬ mM s):lE s=9:=ah (by rw[jM h];exact iS)
theorem r6 (s:ee):(lE s=0/\mM s)\/(lE s=9 /\ ¬ mM s):=by
 by_cases h:mM s
 ·exact .inl ⟨HY h,h⟩
 ·exact .inr ⟨vj h,h⟩
theorem CF (s:ee) (hw:hg s):Fn Tryz.prog 121 [.agg (fc s)] (I (lE s)):=by
 obtain ⟨c4,du,w3,e9,fa,gy,hL⟩:=hw;unfold aE at du w3;have J:=wj s.cO fa (by omega);have aa:=wj s.cI hL (by omega);refine aH Tryz.func121 ?_;refine gW ?_;refine nW ?_;(repeat' first|(refine q5 ?_;(and_intros <;> intros))|fail);refine nX ?_;refine je (fun ok:Bool=>⟨[(1,.ptr 0 0 0 0),(2,I 0),(3,ab ok)],[(0,some (.box 132 (fc s)))],1,Tryz.f121.ntmps⟩) (fun ok=>ok=true ↔ oh s) ?_ ?_
 ·unfold oh;obtain ⟨data,fin,next,jy,lost,dO,hT,b8⟩:=s;dsimp only at *;by_cases hq:data.length<=600/\0<=next/\next<=data.length/\next<=jy/\jy<=4611686018427387903/\gi lost=0/\gi dO=0
  ·obtain ⟨aL,aS,bi,cq,e3,H9,zI⟩:=hq;clear fa hL
   cases fin <;> cases hT <;> cases b8
   all_goals (refine jJ J aa ?_;and_intros <;> intros)
   all_goals first
    | (exact⟨true,⟨fun _=>⟨aL,aS,bi,cq,e3,H9,zI,rfl,fun h=>(by first|omega|cases h)⟩,fun _=>rfl⟩,ba⟩)
    | (exact⟨false,(by exact⟨(fun h=>by cases h),fun h=>(by obtain ⟨_,_,_,_,_,_,_,Dn,zr⟩:=h;first|(cases Dn;done)|(exfalso;have zr:=zr rfl;omega))⟩),ba⟩)
    | skip
  ·clear fa hL;(refine jJ J aa ?_;and_intros <;> intros)
   all_goals first
    | (exact⟨false,⟨(fun h=>by cases h),fun h=>absurd ⟨h.1,h.2.1,h.2.2.1,h.2.2.2.1,h.2.2.2.2.1,h.2.2.2.2.2.1,h.2.2.2.2.2.2.1⟩ hq⟩,ba⟩)
    | skip
 rintro ok bP;clear J aa
 cases ok
 ·have hn:¬ mM s:=fun h=>by have:=bP.2 h.1.1.1;cases this
  rw[vj hn];(try refine ay ?_;and_intros <;> intros)
  all_goals exact bX (hr:=rfl)
 have hh:=bP.1 rfl;clear bP;have xT:=qF hh.2.2.2.2.2.1;have xU:=qF hh.2.2.2.2.2.2.1;have SE:0<=s.Next/\s.Next<=600:=by unfold oh at hh;omega
 (try refine ay ?_;and_intros <;> intros);refine cv (fun j:Nat=>⟨[(1,.ptr 0 0 0 0),(2,I 0),(99,.agg [.ro (s.cO.map aB),.ro (s.cI.map aB)]),(100,I j)],[(0,some (.box 132 (fc s)))],1,Tryz.f121.ntmps⟩)
  (fun j=>j<=2/\(0<j->tF s.Next s.cO)/\(1<j->tF s.Next s.cI)) (fun j=>2 - j) 0 ⟨by omega,fun h=>absurd h (by omega),fun h=>absurd h (by omega)⟩ dV ?_
 rintro j ⟨ad,br,hb⟩;obtain rfl|rfl|rfl:j=0\/j=1\/j=2:=by omega
 ·by_cases ai:0<s.cO.length
  ·have aI:((s.cO.length - 1:Nat):Int)=(s.cO.length:Int) - 1:=by omega
   (try refine ay ?_;and_intros <;> intros)
   all_goals first
    | (exact⟨1,(by omega),⟨by omega,fun _ _=>by omega,fun h=>absurd h (by omega)⟩,ba⟩)
    | (refine bX (hr:=?_);rw[vj (fun h=>by have:=h.1.1.2 ai;omega)])
  ·(try refine ay ?_;and_intros <;> intros)
   all_goals (exact⟨1,(by omega),⟨by omega,fun _ h=>absurd h ai,fun h=>absurd h (by omega)⟩,ba⟩)
 ·have br:=br (by omega);by_cases ai:0<s.cI.length
  ·have aI:((s.cI.length - 1:Nat):Int)=(s.cI.length:Int) - 1:=by omega
   (try refine ay ?_;and_intros <;> intros)
   all_goals first
    | (exact⟨2,(by omega),⟨by omega,fun _=>br,fun _ _=>by omega⟩,ba⟩)
    | (refine bX (hr:=?_);rw[vj (fun h=>by have:=h.1.2 ai;omega)])
  ·(try refine ay ?_;and_intros <;> intros)
   all_goals (exact⟨2,(by omega),⟨by omega,fun _=>br,fun _ h=>absurd h ai⟩,ba⟩)
 have br:=br (by omega);have hb:=hb (by omega);(try refine ay ?_;and_intros <;> intros);refine cv (fun k:Nat=>⟨[(1,.ptr 0 0 0 0),(2,I 0),(120,.ro (s.cO.map aB)),(121,I s.cO.length),(122,I k)],[(0,some (.box 132 (fc s)))],1,Tryz.f121.ntmps⟩)
  (fun k=>k<=s.cO.length/\eu (fun i=>Fq s.cI (s.cO.getD i default)) k) (fun k=>s.cO.length - k) 0 ⟨cm _,lP⟩ dV ?_
 rintro k ⟨ag,hd⟩;by_cases au:k<s.cO.length
 ·have U:=(iC xT _ (cc au)).1;unfold b9 at U;(try refine ay ?_;and_intros <;> intros);refine cv (fun j:Nat=>⟨[(1,.ptr 0 0 0 0),(2,I 0),(120,.ro (s.cO.map aB)),(121,I s.cO.length),(122,I k),(8,.ptr 1 0 0 0),(127,.ro (s.cI.map aB)),(128,I s.cI.length),(129,I j)],[(0,some (.box 132 (fc s))),(1,some (.box 146 (aB (s.cO.getD k default))))],2,Tryz.f121.ntmps⟩)
   (fun j=>j<=s.cI.length/\eu (fun j=>¬ uu (s.cO.getD k default) (s.cI.getD j default)) j) (fun j=>s.cI.length - j) 0 ⟨cm _,lP⟩ dV ?_
  rintro j ⟨ad,he⟩;by_cases fh:j<s.cI.length
  ·have aj:=(iC xU _ (cc fh)).1;unfold b9 at aj;(try refine ay ?_;and_intros <;> intros)
   all_goals first
    | (exact⟨j+1,(by omega),(by exact⟨fh,iQ.2 ⟨he,by unfold uu;omega⟩⟩),ba⟩)
    | (refine bX (hr:=?_);rw[vj (fun h=>h.2 k au j fh (by unfold uu;omega))])
  ·(try refine ay ?_;and_intros <;> intros)
   all_goals (exact⟨k+1,(by omega),⟨au,iQ.2 ⟨hd,fun i hi=>he i (by omega)⟩⟩,ba⟩)
 ·rw[HY ⟨⟨⟨hh,br⟩,hb⟩,fun i hi=>hd i (by omega)⟩];(try refine ay ?_;and_intros <;> intros)
  all_goals exact bX (hr:=rfl)
end Go.Proofs.YtendheafcbickaaGreat
