import Derived.Test.YtendheafcbickaaGreatCHrO
import Derived.Test.YtendheafcbickaaGreatCHxA
set_option linter.unusedVariables false
set_option linter.unusedSimpArgs false
set_option maxHeartbeats 16000000
namespace Go.Proofs.YtendheafcbickaaGreat
section
set_option maxRecDepth 100000
attribute [local irreducible] cE a6 bu GStep Fn cg bf cA
theorem Y8 (g:dQ) (off:Int) (data:List UInt8) (fin:Bool) (hw:ga g) (ae:aE off) (hd:data.length<=1048576) (aw:∀ p ∈ g.aD,p.Data.length<=16777216):Fn Tryz.prog 247 [.agg (e5 g),I off,.ro (data.map bm),ab fin] (.bN [.agg (e5 (iv g off data fin).1),I (iv g off data fin).2]):=by
 have J:=CC g hw;unfold aE at ae;unfold iv;by_cases ai:ev g=0
 ·have ax:=Tw g ai;obtain ⟨hh,hm⟩:=wk ai;unfold gj at hh;rw[ai] at J ⊢;rw[ah (by omega)];by_cases hr:off<0\/4611686018427387903 - (data.length:Int)<off
  ·rw[al hr];refine aH Tryz.func247 ?_;(refine bH J ?_;and_intros <;> intros)
   all_goals first|exact dA|skip
  ·rw[ah hr];by_cases hf:(0<=g.c8/\(g.c8<off+data.length\/(fin=true/\off+data.length≠g.c8)))\/(fin=true/\off+data.length<eO g)
   ·rw[al hf]
    cases fin
    all_goals
     refine aH Tryz.func247 ?_;(refine jJ J ax ?_;and_intros <;> intros)
     all_goals first|exact BO|skip
   ·rw[ah hf];by_cases yb:g.bj<off+data.length
    ·rw[al yb]
     cases fin
     all_goals
      refine aH Tryz.func247 ?_;(refine jJ J ax ?_;and_intros <;> intros)
      all_goals first|exact BO|skip
    ·rw[ah yb];generalize cw:iw g off data=na;unfold iw at cw
     cases fin
     ·refine aH Tryz.func247 ?_;(refine jJ J ax ?_;and_intros <;> intros)
      all_goals first
       | (exfalso;simp at hf;omega)
       | skip
      all_goals
       refine cv (fun x:Nat×Int×Bool×List bA=>⟨[(3,ab false),(4,.ptr 0 0 0 0),(8,.ptr 3 0 0 0),(11,I (off+data.length)),(12,.ptr 4 0 0 0),(13,.ptr 5 0 0 0),(14,.fs 294 [.ptr 5 0 0 0,.ptr 4 0 0 0,.ptr 2 0 0 0,.ptr 1 0 0 0]),(15,ab x.2.2.1),(78,.ro (g.aD.map b5)),(79,I g.aD.length),(80,I x.1)],[(0,some (.box 130 (e5 g))),(1,some (.box 3 [I off])),(2,some (.box 29 [.ro (data.map bm)])),(3,some (.box 130 [I 0,aX,I 0,I 0])),(4,some (.box 128 [.own 6])),(5,some (.box 3 [I x.2.1])),(6,some (.row 235 2 (x.2.2.2.map b5)))],7,Tryz.f247.ntmps⟩)
        (fun x=>x.1<=g.aD.length/\uX off (off+data.length) data (pB off (off+data.length) data x.2 (g.aD.drop x.1))=na/\uY off x.1 x.2) (fun x=>g.aD.length - x.1) (0,max off g.bQ,false,[])
        ⟨cm _,cw,⟨by dsimp only;omega,by dsimp only;omega,by simp,by simp[eL],fun p ar=>by cases ar⟩⟩ ((Le (id:=4) 235 2 rfl rfl rfl rfl).trans (by first|(exact ba)|skip)) ?_
       rintro ⟨k,a,Bo,l⟩ ⟨ag,bL,bP⟩;dsimp only at *;by_cases au:k<g.aD.length
       ·rw[drop_cons au] at bL;have ar:=hm _ (cc au);have hI:=aw _ (cc au);have dJ:=Gx (p:=(g.aD.getD k default)) (by omega) hd (by omega) bP ⟨by omega,ar.2⟩ hI;obtain ⟨aL,aS,bi,cq,e3⟩:=bP;dsimp only at *;have hc:=Ct a off (min (g.aD.getD k default).aP (off+data.length)) data l (by omega) aL aS (by omega) (by omega) (by omega);have bL:uX off (off+data.length) data (pB off (off+data.length) data (r4 off (off+data.length) data (a,Bo,l) (g.aD.getD k default)) (g.aD.drop (k+1)))=na:=bL;unfold r4 at bL dJ;dsimp only at bL dJ;have e7:(jR a off data (min (g.aD.getD k default).aP (off+data.length)) l).length<=l.length+1:=(wR (by omega) aL (by omega) hd (by omega) e3).1;clear cw hm aw J ax
        cases Bo
        ·by_cases Bp:a<=(g.aD.getD k default).aP
         ·rw[al ⟨rfl,Bp⟩] at bL dJ;generalize jR a off data (min (g.aD.getD k default).aP (off+data.length)) l=gz at *;by_cases lk:a<((g.aD.getD k default).aP+(g.aD.getD k default).Data.length)
          ·rw[Int.max_eq_right (by omega)] at bL dJ;by_cases hR:(off+data.length)<=((g.aD.getD k default).aP+(g.aD.getD k default).Data.length)
           ·rw[decide_eq_true hR,Bool.false_or] at bL dJ;(refine tZ ?_;and_intros <;> intros)
            all_goals first
             | (exact⟨(k+1,((g.aD.getD k default).aP+(g.aD.getD k default).Data.length),true,gz++[(g.aD.getD k default)]),b4,⟨au,bL,dJ⟩,ba⟩)
             | (exfalso;omega)
             | skip
           ·rw[decide_eq_false hR,Bool.false_or] at bL dJ;(refine tZ ?_;and_intros <;> intros)
            all_goals first
             | (exact⟨(k+1,((g.aD.getD k default).aP+(g.aD.getD k default).Data.length),false,gz++[(g.aD.getD k default)]),b4,⟨au,bL,dJ⟩,ba⟩)
             | (exfalso;omega)
             | skip
          ·rw[Int.max_eq_left (by omega)] at bL dJ;by_cases hR:(off+data.length)<=a
           ·rw[decide_eq_true hR,Bool.false_or] at bL dJ;(refine tZ ?_;and_intros <;> intros)
            all_goals first
             | (exact⟨(k+1,a,true,gz++[(g.aD.getD k default)]),b4,⟨au,bL,dJ⟩,ba⟩)
             | (exfalso;omega)
             | skip
           ·rw[decide_eq_false hR,Bool.false_or] at bL dJ;(refine tZ ?_;and_intros <;> intros)
            all_goals first
             | (exact⟨(k+1,a,false,gz++[(g.aD.getD k default)]),b4,⟨au,bL,dJ⟩,ba⟩)
             | (exfalso;omega)
             | skip
         ·rw[ah (fun h=>Bp h.2)] at bL dJ;clear hc e7;by_cases lk:a<((g.aD.getD k default).aP+(g.aD.getD k default).Data.length)
          ·rw[Int.max_eq_right (by omega)] at bL dJ;by_cases hR:(off+data.length)<=((g.aD.getD k default).aP+(g.aD.getD k default).Data.length)
           ·rw[decide_eq_true hR,Bool.false_or] at bL dJ;(refine pU ?_;and_intros <;> intros)
            all_goals first|exact EG|skip
           ·rw[decide_eq_false hR,Bool.false_or] at bL dJ;(refine pU ?_;and_intros <;> intros)
            all_goals first
             | (exact⟨(k+1,((g.aD.getD k default).aP+(g.aD.getD k default).Data.length),false,l++[(g.aD.getD k default)]),b4,⟨au,bL,dJ⟩,ba⟩)
             | (exfalso;omega)
             | skip
          ·rw[Int.max_eq_left (by omega)] at bL dJ;by_cases hR:(off+data.length)<=a
           ·rw[decide_eq_true hR,Bool.false_or] at bL dJ;(refine pU ?_;and_intros <;> intros)
            all_goals first|exact EH|skip
           ·rw[decide_eq_false hR,Bool.false_or] at bL dJ;(refine pU ?_;and_intros <;> intros)
            all_goals first
             | (exact⟨(k+1,a,false,l++[(g.aD.getD k default)]),b4,⟨au,bL,dJ⟩,ba⟩)
             | (exfalso;omega)
             | skip
        ·rw[ah (fun h=>by cases h.1)] at bL dJ;clear hc e7;by_cases lk:a<((g.aD.getD k default).aP+(g.aD.getD k default).Data.length)
         ·rw[Int.max_eq_right (by omega)] at bL dJ;rw[Bool.true_or] at bL dJ;(refine pU ?_;and_intros <;> intros)
          all_goals first|exact EG|skip
         ·rw[Int.max_eq_left (by omega)] at bL dJ;rw[Bool.true_or] at bL dJ;(refine pU ?_;and_intros <;> intros)
          all_goals first|exact EH|skip
       ·have ca:k=g.aD.length:=by omega
        subst ca;rw[iJ] at bL;have bL:jR a off data (off+data.length) l=na:=bL;obtain ⟨aL,aS,bi,cq,e3⟩:=bP;dsimp only at *;have hc:=Ct a off (off+data.length) data l (by omega) aL aS (Int.le_refl _) (by omega) (by omega);obtain ⟨bB,de,fJ⟩:=wR (a:=a) (off:=off) (to:=off+data.length) (data:=data) (l:=l) (by omega) aL (Int.le_refl _) hd (by omega) e3;rw[bL] at hc bB de fJ;have Y9:=hh.2.2.2.2;have hZ:=Mk na (by omega) fJ (by omega);clear cw hm aw J ax bL de fJ bi cq e3;by_cases dG:4<(h6 na).length
        ·rw[al dG];generalize h6 na=Kr at *;(repeat' first|refine oQ [5,4,2,1,6] (hc) (h:=?_)|(refine fI 28 ?_;(and_intros <;> intros))|fail);refine PR ?_;(refine bH hZ ?_;and_intros <;> intros)
         all_goals first|exact dA|skip
        ·rw[ah dG];generalize h6 na=Kr at *
         first|rw[al rfl]|rw[ah iS]
         (repeat' first|refine oQ [5,4,2,1,6] (hc) (h:=?_)|(refine fI 28 ?_;(and_intros <;> intros))|fail);refine PR ?_;(refine bH hZ ?_;and_intros <;> intros)
         all_goals first|exact dA|skip
     ·refine aH Tryz.func247 ?_;(refine jJ J ax ?_;and_intros <;> intros)
      all_goals first
       | (exfalso;simp at hf;omega)
       | skip
      all_goals
       refine cv (fun x:Nat×Int×Bool×List bA=>⟨[(3,ab true),(4,.ptr 0 0 0 0),(8,.ptr 3 0 0 0),(11,I (off+data.length)),(12,.ptr 4 0 0 0),(13,.ptr 5 0 0 0),(14,.fs 294 [.ptr 5 0 0 0,.ptr 4 0 0 0,.ptr 2 0 0 0,.ptr 1 0 0 0]),(15,ab x.2.2.1),(78,.ro (g.aD.map b5)),(79,I g.aD.length),(80,I x.1)],[(0,some (.box 130 (e5 g))),(1,some (.box 3 [I off])),(2,some (.box 29 [.ro (data.map bm)])),(3,some (.box 130 [I 0,aX,I 0,I 0])),(4,some (.box 128 [.own 6])),(5,some (.box 3 [I x.2.1])),(6,some (.row 235 2 (x.2.2.2.map b5)))],7,Tryz.f247.ntmps⟩)
        (fun x=>x.1<=g.aD.length/\uX off (off+data.length) data (pB off (off+data.length) data x.2 (g.aD.drop x.1))=na/\uY off x.1 x.2) (fun x=>g.aD.length - x.1) (0,max off g.bQ,false,[])
        ⟨cm _,cw,⟨by dsimp only;omega,by dsimp only;omega,by simp,by simp[eL],fun p ar=>by cases ar⟩⟩ ((Le (id:=4) 235 2 rfl rfl rfl rfl).trans (by first|(exact ba)|skip)) ?_
       rintro ⟨k,a,Bo,l⟩ ⟨ag,bL,bP⟩;dsimp only at *;by_cases au:k<g.aD.length
       ·rw[drop_cons au] at bL;have ar:=hm _ (cc au);have hI:=aw _ (cc au);have dJ:=Gx (p:=(g.aD.getD k default)) (by omega) hd (by omega) bP ⟨by omega,ar.2⟩ hI;obtain ⟨aL,aS,bi,cq,e3⟩:=bP;dsimp only at *;have hc:=Ct a off (min (g.aD.getD k default).aP (off+data.length)) data l (by omega) aL aS (by omega) (by omega) (by omega);have bL:uX off (off+data.length) data (pB off (off+data.length) data (r4 off (off+data.length) data (a,Bo,l) (g.aD.getD k default)) (g.aD.drop (k+1)))=na:=bL;unfold r4 at bL dJ;dsimp only at bL dJ;have e7:(jR a off data (min (g.aD.getD k default).aP (off+data.length)) l).length<=l.length+1:=(wR (by omega) aL (by omega) hd (by omega) e3).1;clear cw hm aw J ax
        cases Bo
        ·by_cases Bp:a<=(g.aD.getD k default).aP
         ·rw[al ⟨rfl,Bp⟩] at bL dJ;generalize jR a off data (min (g.aD.getD k default).aP (off+data.length)) l=gz at *;by_cases lk:a<((g.aD.getD k default).aP+(g.aD.getD k default).Data.length)
          ·rw[Int.max_eq_right (by omega)] at bL dJ;by_cases hR:(off+data.length)<=((g.aD.getD k default).aP+(g.aD.getD k default).Data.length)
           ·rw[decide_eq_true hR,Bool.false_or] at bL dJ;(refine tZ ?_;and_intros <;> intros)
            all_goals first
             | (exact⟨(k+1,((g.aD.getD k default).aP+(g.aD.getD k default).Data.length),true,gz++[(g.aD.getD k default)]),b4,⟨au,bL,dJ⟩,ba⟩)
             | (exfalso;omega)
             | skip
           ·rw[decide_eq_false hR,Bool.false_or] at bL dJ;(refine tZ ?_;and_intros <;> intros)
            all_goals first
             | (exact⟨(k+1,((g.aD.getD k default).aP+(g.aD.getD k default).Data.length),false,gz++[(g.aD.getD k default)]),b4,⟨au,bL,dJ⟩,ba⟩)
             | (exfalso;omega)
             | skip
          ·rw[Int.max_eq_left (by omega)] at bL dJ;by_cases hR:(off+data.length)<=a
           ·rw[decide_eq_true hR,Bool.false_or] at bL dJ;(refine tZ ?_;and_intros <;> intros)
            all_goals first
             | (exact⟨(k+1,a,true,gz++[(g.aD.getD k default)]),b4,⟨au,bL,dJ⟩,ba⟩)
             | (exfalso;omega)
             | skip
           ·rw[decide_eq_false hR,Bool.false_or] at bL dJ;(refine tZ ?_;and_intros <;> intros)
            all_goals first
             | (exact⟨(k+1,a,false,gz++[(g.aD.getD k default)]),b4,⟨au,bL,dJ⟩,ba⟩)
             | (exfalso;omega)
             | skip
         ·rw[ah (fun h=>Bp h.2)] at bL dJ;clear hc e7;by_cases lk:a<((g.aD.getD k default).aP+(g.aD.getD k default).Data.length)
          ·rw[Int.max_eq_right (by omega)] at bL dJ;by_cases hR:(off+data.length)<=((g.aD.getD k default).aP+(g.aD.getD k default).Data.length)
           ·rw[decide_eq_true hR,Bool.false_or] at bL dJ;(refine pU ?_;and_intros <;> intros)
            all_goals first|exact EG|skip
           ·rw[decide_eq_false hR,Bool.false_or] at bL dJ;(refine pU ?_;and_intros <;> intros)
            all_goals first
             | (exact⟨(k+1,((g.aD.getD k default).aP+(g.aD.getD k default).Data.length),false,l++[(g.aD.getD k default)]),b4,⟨au,bL,dJ⟩,ba⟩)
             | (exfalso;omega)
             | skip
          ·rw[Int.max_eq_left (by omega)] at bL dJ;by_cases hR:(off+data.length)<=a
           ·rw[decide_eq_true hR,Bool.false_or] at bL dJ;(refine pU ?_;and_intros <;> intros)
            all_goals first|exact EH|skip
           ·rw[decide_eq_false hR,Bool.false_or] at bL dJ;(refine pU ?_;and_intros <;> intros)
            all_goals first
             | (exact⟨(k+1,a,false,l++[(g.aD.getD k default)]),b4,⟨au,bL,dJ⟩,ba⟩)
             | (exfalso;omega)
             | skip
        ·rw[ah (fun h=>by cases h.1)] at bL dJ;clear hc e7;by_cases lk:a<((g.aD.getD k default).aP+(g.aD.getD k default).Data.length)
         ·rw[Int.max_eq_right (by omega)] at bL dJ;rw[Bool.true_or] at bL dJ;(refine pU ?_;and_intros <;> intros)
          all_goals first|exact EG|skip
         ·rw[Int.max_eq_left (by omega)] at bL dJ;rw[Bool.true_or] at bL dJ;(refine pU ?_;and_intros <;> intros)
          all_goals first|exact EH|skip
       ·have ca:k=g.aD.length:=by omega
        subst ca;rw[iJ] at bL;have bL:jR a off data (off+data.length) l=na:=bL;obtain ⟨aL,aS,bi,cq,e3⟩:=bP;dsimp only at *;have hc:=Ct a off (off+data.length) data l (by omega) aL aS (Int.le_refl _) (by omega) (by omega);obtain ⟨bB,de,fJ⟩:=wR (a:=a) (off:=off) (to:=off+data.length) (data:=data) (l:=l) (by omega) aL (Int.le_refl _) hd (by omega) e3;rw[bL] at hc bB de fJ;have Y9:=hh.2.2.2.2;have hZ:=Mk na (by omega) fJ (by omega);clear cw hm aw J ax bL de fJ bi cq e3;by_cases dG:4<(h6 na).length
        ·rw[al dG];generalize h6 na=Kr at *;(repeat' first|refine oQ [5,4,2,1,6] (hc) (h:=?_)|(refine fI 28 ?_;(and_intros <;> intros))|fail);refine PS ?_;(refine bH hZ ?_;and_intros <;> intros)
         all_goals first|exact dA|skip
        ·rw[ah dG];generalize h6 na=Kr at *
         first|rw[al rfl]|rw[ah iS]
         (repeat' first|refine oQ [5,4,2,1,6] (hc) (h:=?_)|(refine fI 28 ?_;(and_intros <;> intros))|fail);refine PS ?_;(refine bH hZ ?_;and_intros <;> intros)
         all_goals first|exact dA|skip
 ·rw[al ai];generalize ev g=e at *;refine aH Tryz.func247 ?_;(refine bH J ?_;and_intros <;> intros)
  all_goals first|exact dA|skip
end
end Go.Proofs.YtendheafcbickaaGreat
