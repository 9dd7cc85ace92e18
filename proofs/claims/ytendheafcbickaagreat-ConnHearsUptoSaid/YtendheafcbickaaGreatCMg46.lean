/-
  SEVERAL TEXTS IN ONE: each with its own comment.
-/
import Derived.Test.YtendheafcbickaaGreatCMg38
set_option linter.unusedVariables false
set_option linter.unusedSimpArgs false
set_option maxHeartbeats 16000000
namespace Go.Proofs.YtendheafcbickaaGreat
variable {cs ds:List V} {l:List (List V)} {n:Nat}
section
set_option maxRecDepth 100000
attribute [local irreducible] cE a6 bu GStep Fn cg bf cA
def ya (g:dQ):Nat->Int
 | 0=>g.bQ
 | k+1=>(g.aD.getD k default).aP+(g.aD.getD k default).Data.length
theorem Sr (g:dQ):ya g g.aD.length=eO g:=by
 unfold eO
 cases h:g.aD.length with
 | zero=>rfl
 | succ n=>rw[al (by omega)];rfl
theorem BM (g:dQ) (h:ev g=0):Fn Tryz.prog 155 [.agg (e5 g)] (I (eO g)):=by
 obtain ⟨hh,hm⟩:=wk h;unfold gj at hh;rw[<- Sr];refine aH Tryz.func155 ?_;(try refine ay ?_;and_intros <;> intros);refine cv (fun k:Nat=>⟨[(1,.ptr 0 0 0 0),(3,I (ya g k)),(9,.ro (g.aD.map b5)),(10,I g.aD.length),(11,I k)],[(0,some (.box 130 (e5 g)))],1,Tryz.f155.ntmps⟩)
  (fun k=>k<=g.aD.length) (fun k=>g.aD.length - k) 0 (cm _) fP ?_
 intro k ag;by_cases au:k<g.aD.length
 ·have ar:=hm _ (cc au);have e:ya g (k+1)=(g.aD.getD k default).aP+(g.aD.getD k default).Data.length:=rfl;generalize ya g k=u;(try refine ay ?_;and_intros <;> intros)
  all_goals first
   | (refine ⟨k+1,?_,?_,?_⟩;rotate_left 2;(rw[e];(exact ba));(focus omega);(focus (exact au)))
   | skip
 ·have ca:k=g.aD.length:=by omega
  subst ca;generalize ya g g.aD.length=u;(try refine ay ?_;and_intros <;> intros)
  all_goals first
   | exact bX (hr:=rfl)
   | skip
theorem Lj {inv:Nat->Option Nat} {heap:List (Nat×Option aT)} {e s:Nat} (L:List bA) {eU uv:List V} (h:e6.me inv heap cs=some eU) (aa:e6.me inv heap ds=some uv):pg inv heap (.ch e s ((L.map b5++[cs])++[ds])) (.ch e s ((L.map b5++[eU])++[uv])):=by
 refine .inr ⟨e,s,_,_,rfl,rfl,by simp,fun i hi=>?_⟩;rw[mf,mf,mf,mf];simp only[eE,bY,eb,fg] at hi ⊢;by_cases J:i<L.length
 ·rw[al (show i<L.length+(0+1) by omega),al J,al (show i<L.length+(0+1) by omega),al J];refine BN (map_pure L _ ?_);unfold bb;rw[bZ,eB (by rw[bY];exact J)];exact List.getElem_mem _
 ·by_cases az:i<L.length+(0+1)
  ·rw[al az,ah J,al az,ah J,show i - L.length=0 by omega];exact h
  ·rw[ah az,ah az,show i - (L.length+(0+1))=0 by omega];exact aa
theorem Lk (h:n=l.length):bb (l++[cs]) n=cs:=by rw[h];exact Ss
theorem St (h:n=l.length):(l++[cs]).set n ds=l++[ds]:=by rw[h];exact Ll
noncomputable def ph (g:dQ) (last:Int) (fin:Bool) (ef:List (Int×UInt8)) (P:List Int) (k:Nat):Option (List bA×bA)->aW
 | none=>⟨[(3,ab fin),(4,.ptr 0 0 0 0),(8,.ptr 1 0 0 0),(9,I 0),(11,I last),(12,.own 2),(19,.ro (P.map encI)),(21,.own 3),(129,.ro (P.map encI)),(130,I P.length),(131,I k)],
   [(0,some (.box 130 (e5 g))),(1,some (.box 130 [I 0,aX,I 0,I 0])),(2,some (.gF (some .i64) (ef.map gG))),(3,some (.ch 235 2 []))],4,Tryz.f153.ntmps⟩
 | some (L,q)=>⟨[(3,ab fin),(4,.ptr 0 0 0 0),(8,.ptr 1 0 0 0),(9,I 0),(11,I last),(12,.own 2),(19,.ro (P.map encI)),(21,.own 3),(129,.ro (P.map encI)),(130,I P.length),(131,I k)],
   [(0,some (.box 130 (e5 g))),(1,some (.box 130 [I 0,aX,I 0,I 0])),(2,some (.gF (some .i64) (ef.map gG))),(3,some (.ch 235 2 (L.map b5++[[I q.aP,.own 4]]))),(4,some (.row 5 1 (q.Data.map bm)))],5,Tryz.f153.ntmps⟩
theorem Su (g:dQ) (off:Int) (data:List UInt8) (fin:Bool) (hw:ga g) (ae:aE off) (hd:data.length<=1048576) (aw:∀ p ∈ g.aD,p.Data.length<=16777216):Fn Tryz.prog 153 [.agg (e5 g),I off,.ro (data.map bm),ab fin] (.bN [.agg (e5 (iv g off data fin).1),I (iv g off data fin).2]):=by
 have J:=Fu g hw;unfold aE at ae;unfold iv;by_cases ai:ev g=0
 ·have ax:=BM g ai;obtain ⟨hh,hm⟩:=wk ai;have Sv:=Lm ai;unfold gj at hh;rw[ai] at J ⊢;rw[ah (by omega)];by_cases hr:off<0\/4611686018427387903 - (data.length:Int)<off
  ·rw[al hr];refine aH Tryz.func153 ?_;(refine rI ?_;and_intros <;> intros)
   all_goals first|exact dA|skip
  ·rw[ah hr];by_cases hf:(0<=g.c8/\(g.c8<off+data.length\/(fin=true/\off+data.length≠g.c8)))\/(fin=true/\off+data.length<eO g)
   ·rw[al hf]
    cases fin
    all_goals
     refine aH Tryz.func153 ?_;(repeat' first|refine bh J ?_|refine bh ax ?_|(refine h4 (hW _ _) (ht:=?_) (hff:=?_) <;> intro _ <;> try (exfalso;omega))|(refine h5 (hW _ _) (ht:=?_) (hff:=?_) <;> intro _ <;> try (exfalso;omega))|(refine ay ?_;(and_intros <;> intros))|fail)
     all_goals first|exact BO|skip
   ·rw[ah hf];by_cases yb:g.bj<off+data.length
    ·rw[al yb]
     cases fin
     all_goals
      refine aH Tryz.func153 ?_;(repeat' first|refine bh J ?_|refine bh ax ?_|(refine h4 (hW _ _) (ht:=?_) (hff:=?_) <;> intro _ <;> try (exfalso;omega))|(refine h5 (hW _ _) (ht:=?_) (hff:=?_) <;> intro _ <;> try (exfalso;omega))|(refine ay ?_;(and_intros <;> intros))|fail)
      all_goals first|exact BO|skip
    ·rw[ah yb];have dc:=Sw g off data Sv;have Ln:=Fv (jt g off data) [];have Sx:(jt g off data).length<=data.length+eL g.aD:=by
      unfold jt;rw[eE,BP];have:=oA (fun y=>decide (g.bQ<=y.1)) (dv off data);rw[BQ] at this;omega
     have Sy:=Fw aw
     have rJ:∀ x ∈ eM (fC [] (jt g off data)),0<=x/\x<4611686018427387904:=Sz (fun y aj=>by
      unfold jt at aj;rcases gr.1 aj with aj|aj
      ·have:=mA (x:=y.1) (c:=y.2) (List.mem_filter.1 aj).1;omega
      ·obtain ⟨p,ar,aj⟩:=List.mem_flatMap.1 aj;have:=mA (x:=y.1) (c:=y.2) aj;have:=hm p ar
       omega) (fun y aj=>by cases aj)
     have nQ:(eM (fC [] (jt g off data))).Nodup:=Fx _ _ (by simp[eM]);generalize wm:fC [] (jt g off data)=ef at *;unfold jt at wm;rw[Fy] at wm;have aby:ef.length<=1048576+16777216 * 4:=by
      simp only[fg,fy] at Ln;have:16777216 * g.aD.length<=16777216 * 4:=Nat.mul_le_mul_left _ hh.2.2.2.2;omega
     clear Ln Sx Sy;generalize yc:h6 (iw g off data)=bf at *;clear yc;generalize BR:fC [] ((dv off data).filter (fun y=>decide (g.bQ<=y.1)))=wo at *
     cases fin
     ·refine aH Tryz.func153 ?_;(repeat' first|refine bh J ?_|(refine h4 (hW _ _) (ht:=?_) (hff:=?_) <;> intro _ <;> try (exfalso;omega))|(refine h5 (hW _ _) (ht:=?_) (hff:=?_) <;> intro _ <;> try (exfalso;omega))|(refine fI 7 ?_;(and_intros <;> intros))|fail)
      all_goals try (exfalso;omega)
      refine je (fun _:Unit=>⟨[(1,I off),(2,.ro (data.map bm)),(3,ab false),(4,.ptr 0 0 0 0),(8,.ptr 1 0 0 0),(9,I 0),(11,I (off+data.length))],[(0,some (.box 130 (e5 g))),(1,some (.box 130 [I 0,aX,I 0,I 0]))],2,Tryz.f153.ntmps⟩) (fun _=>True) ?_ ?_
      ·(refine bH ax ?_;and_intros <;> intros)
       all_goals first
        | (exact⟨(),trivial,ba⟩)
        | (exfalso;simp at hf;omega)
        | skip
      rintro ⟨⟩ -;clear J ax hf;(try refine ay ?_;and_intros <;> intros)
      all_goals try (exfalso;omega)
      ·refine cv (fun x:Nat×List (Int×UInt8)=>⟨[(1,I off),(2,.ro (data.map bm)),(3,ab false),(4,.ptr 0 0 0 0),(8,.ptr 1 0 0 0),(9,I 0),(11,I (off+data.length)),(12,.own 2),(75,.ro (data.map bm)),(76,I data.length),(77,I x.1)],[(0,some (.box 130 (e5 g))),(1,some (.box 130 [I 0,aX,I 0,I 0])),(2,some (.map (some .i64) (x.2.map gG)))],3,Tryz.f153.ntmps⟩)
        (fun x=>x.1<=data.length/\fC x.2 ((dv (off+x.1) (data.drop x.1)).filter (fun y=>decide (g.bQ<=y.1)))=wo) (fun x=>data.length - x.1) (0,[]) ⟨cm _,by dsimp only;rw[List.drop_zero,show off+((0:Nat):Int)=off by omega];exact BR⟩ fP ?_
       clear BR;rintro ⟨k,M⟩ ⟨ag,hi⟩;dsimp only at *;by_cases au:k<data.length
       ·rw[BS au,List.filter_cons] at hi;by_cases aN:g.bQ<=off+k
        ·rw[al (decide_eq_true aN)] at hi;have hi:fC (ik (off+k) (data.getD k default) M) ((dv (off+(k+1:Nat)) (data.drop (k+1))).filter (fun y=>decide (g.bQ<=y.1)))=wo:=hi;have k4:=yd (off+k) (data.getD k default) M;(repeat' first|(refine BT (r:=(ik (off+k) (data.getD k default) M).map gG) ?_ (h:=?_);(focus ((exact k4))))|(refine eF ?_;(and_intros <;> intros))|refine dS ?_|fail)
         all_goals first
          | (exact⟨(k+1,ik (off+k) (data.getD k default) M),b4,⟨au,hi⟩,ba⟩)
          | (exfalso;omega)
          | skip
        ·rw[ah (by simp;omega)] at hi;(try refine ay ?_;and_intros <;> intros)
         all_goals first|exact BU|skip
       have ca:k=data.length:=by omega
       subst ca;rw[iJ] at hi;have hi:M=wo:=hi;subst hi;clear au ag;(try refine ay ?_;and_intros <;> intros);refine cv (fun x:Nat×List (Int×UInt8)=>⟨[(3,ab false),(4,.ptr 0 0 0 0),(8,.ptr 1 0 0 0),(9,I 0),(11,I (off+data.length)),(12,.own 2),(95,.ro (g.aD.map b5)),(96,I g.aD.length),(97,I x.1)],[(0,some (.box 130 (e5 g))),(1,some (.box 130 [I 0,aX,I 0,I 0])),(2,some (.map (some .i64) (x.2.map gG)))],3,Tryz.f153.ntmps⟩)
        (fun x=>x.1<=g.aD.length/\fC x.2 (dd (g.aD.drop x.1))=ef) (fun x=>g.aD.length - x.1) (0,M) ⟨cm _,wm⟩ fP ?_
       clear wm;rintro ⟨k,M⟩ ⟨ag,hi⟩;dsimp only at *;by_cases au:k<g.aD.length
       ·rw[drop_cons au] at hi;have hi:fC M (dv (g.aD.getD k default).aP (g.aD.getD k default).Data++dd (g.aD.drop (k+1)))=ef:=hi;have ar:=hm _ (cc au);have hI:=aw _ (cc au);(try refine ay ?_;and_intros <;> intros);refine cv (fun x:Nat×List (Int×UInt8)=>⟨[(3,ab false),(4,.ptr 0 0 0 0),(8,.ptr 1 0 0 0),(9,I 0),(11,I (off+data.length)),(12,.own 2),(95,.ro (g.aD.map b5)),(96,I g.aD.length),(97,I k),(16,.ptr 3 0 0 0),(102,.ro ((g.aD.getD k default).Data.map bm)),(103,I (g.aD.getD k default).Data.length),(104,I x.1)],[(0,some (.box 130 (e5 g))),(1,some (.box 130 [I 0,aX,I 0,I 0])),(2,some (.map (some .i64) (x.2.map gG))),(3,some (.box 235 [I (g.aD.getD k default).aP,.ro ((g.aD.getD k default).Data.map bm)]))],4,Tryz.f153.ntmps⟩)
         (fun x=>x.1<=(g.aD.getD k default).Data.length/\fC x.2 (dv ((g.aD.getD k default).aP+x.1) ((g.aD.getD k default).Data.drop x.1)++dd (g.aD.drop (k+1)))=ef) (fun x=>(g.aD.getD k default).Data.length - x.1) (0,M) ⟨cm _,by dsimp only;rw[List.drop_zero,show(g.aD.getD k default).aP+((0:Nat):Int)=(g.aD.getD k default).aP by omega];exact hi⟩ fP ?_
        clear hi;rintro ⟨j,M⟩ ⟨ad,hi⟩;dsimp only at *;by_cases fh:j<(g.aD.getD k default).Data.length
        ·rw[BS fh] at hi;have hi:fC (ik ((g.aD.getD k default).aP+j) ((g.aD.getD k default).Data.getD j default) M) (dv ((g.aD.getD k default).aP+(j+1:Nat)) ((g.aD.getD k default).Data.drop (j+1))++dd (g.aD.drop (k+1)))=ef:=hi;have k4:=yd ((g.aD.getD k default).aP+j) ((g.aD.getD k default).Data.getD j default) M;(repeat' first|(refine BT (r:=(ik ((g.aD.getD k default).aP+j) ((g.aD.getD k default).Data.getD j default) M).map gG) ?_ (h:=?_);(focus ((exact k4))))|(refine eF ?_;(and_intros <;> intros))|refine dS ?_|fail)
         all_goals first
          | (exact⟨(j+1,ik ((g.aD.getD k default).aP+j) ((g.aD.getD k default).Data.getD j default) M),b4,⟨fh,hi⟩,ba⟩)
          | (exfalso;omega)
          | skip
        ·have nR:j=(g.aD.getD k default).Data.length:=by omega
         subst nR;rw[iJ] at hi;have hi:fC M (dd (g.aD.drop (k+1)))=ef:=hi;(try refine ay ?_;and_intros <;> intros)
         all_goals first|exact BU|skip
       have ca:k=g.aD.length:=by omega
       subst ca;rw[iJ] at hi;have hi:M=ef:=hi;subst hi;clear au ag hm aw;generalize M=ef at *;(try refine ay ?_;and_intros <;> intros);refine cv (fun x:List (Int×UInt8)×List Int×Option (Value×Value)=>⟨[(3,ab false),(4,.ptr 0 0 0 0),(8,.ptr 1 0 0 0),(9,I 0),(11,I (off+data.length)),(12,.own 2),(19,.own 4),(118,.own 3)],[(0,some (.box 130 (e5 g))),(1,some (.box 130 [I 0,aX,I 0,I 0])),(2,some (.gF (some .i64) (ef.map gG))),(3,some (.iter (x.1.map gG) x.2.2)),(4,some (.row 3 1 (x.2.1.map encI)))],5,Tryz.f153.ntmps⟩)
        (fun x=>(x.2.1++eM x.1).Perm (eM ef)) (fun x=>x.1.length) (ef,[],none) (by dsimp only;rw[kg]) ((iR (n:=4) (t:=19) 3 1 rfl rfl rfl).trans fP) ?_
       rintro ⟨L,pl,cQ⟩ lu;dsimp only at *;have hI:pl.length+L.length=ef.length:=by have:=lu.length_eq;simpa[eM] using this
       (repeat' first|refine Lo (he:=?_) (h:=?_)|(refine ay ?_;(and_intros <;> intros))|fail)
       ·intro ai;have cw:L=[]:=List.map_eq_nil_iff.1 ai;subst cw;have lu:pl.Perm (eM ef):=by simpa[eM] using lu
        have rK:=Lp pl (by omega);have ye:=Fz pl;have yf:=FA pl;have FB:=yg pl;generalize mB pl=P at *;have uw:=ye.trans lu;have dc:=dc P yf uw;have ux:∀ x ∈ P,0<=x/\x<4611686018427387904:=fun x U=>rJ x (uw.mem_iff.1 U)
        have SA:P.length<=68157440:=by omega
        clear rJ lu ye yf FB uw nQ hI;(repeat' first|(refine dL [4] (rK) (h:=?_))|(refine fi [4] (rK) (h:=?_))|(refine gd [4] (rK) (h:=?_))|(refine fI 33 ?_;(and_intros <;> intros))|fail);clear rK;refine gH (bq:=⟨[(3,ab false),(4,.ptr 0 0 0 0),(8,.ptr 1 0 0 0),(9,I 0),(11,I (off+data.length)),(12,.own 2),(19,.ro (P.map encI))],[(0,some (.box 130 (e5 g))),(1,some (.box 130 [I 0,aX,I 0,I 0])),(2,some (.gF (some .i64) (ef.map gG)))],3,Tryz.f153.ntmps⟩) fP ?_;(try refine ay ?_;and_intros <;> intros);refine cv (fun x:Nat×Option (List bA×bA)=>ph g (off+data.length) false ef P x.1 x.2)
         (fun x=>x.1<=P.length/\hJ x.2 ((P.drop x.1).map (fun z=>one (z,j1 ef z)))=hJ none (P.map (fun z=>one (z,j1 ef z)))/\rL P x.1 x.2) (fun x=>P.length - x.1) (0,none) ⟨cm _,rfl,rfl⟩
         (((iR (n:=3) (t:=21) 235 2 rfl rfl rfl).trans (BV (id:=3) rfl)).trans dV) ?_
        rintro ⟨k,x⟩ ⟨ag,hi,ae⟩
        cases x with
        | none=>
         unfold rL at ae;dsimp only[ph] at *;subst ae;by_cases au:0<P.length
         ·have U:=ux _ (cc au);rw[drop_cons au] at hi;have wq:=BW (P.getD 0 default) ef;(repeat' first|(refine fI 37 ?_;(and_intros <;> intros))|fail);refine je (fun _:Unit=>⟨[(3,ab false),(4,.ptr 0 0 0 0),(8,.ptr 1 0 0 0),(9,I 0),(11,I (off+data.length)),(12,.own 2),(19,.ro (P.map encI)),(21,.own 5),(22,I ((0:Nat):Int)),(23,I (P.getD 0 default)),(129,.ro (P.map encI)),(130,I P.length),(131,I ((0:Nat):Int))],[(0,some (.box 130 (e5 g))),(1,some (.box 130 [I 0,aX,I 0,I 0])),(2,some (.gF (some .i64) (ef.map gG))),(5,some (.ch 235 2 (([]:List bA).map b5++[[I (P.getD 0 default),aX]])))],6,Tryz.f153.ntmps⟩) (fun _=>True) ?_ ?_
          ·(refine Lq ?_;and_intros <;> intros)
           all_goals first
            | (exact⟨(),trivial,ba⟩)
            | (exfalso;omega)
            | skip
          rintro ⟨⟩ -;refine gU [(18,5)] (h:=?_);(refine Lr ?_;and_intros <;> intros)
          all_goals (refine ⟨(0+1,some ([],one (P.getD 0 default,j1 ef (P.getD 0 default)))),b4,⟨au,hi,Ls⟩,?_⟩)
          dsimp only[ph,one];exact jG [(0,0),(1,1),(2,2),(5,3),(21,4)] rfl jH (And.intro ⟨rfl,_,rfl,.inl rfl⟩ (And.intro ⟨rfl,_,rfl,.inl rfl⟩ (And.intro ⟨rfl,_,rfl,.inl rfl⟩ (And.intro ⟨rfl,_,rfl,p3 (l:=[]) (by simp) rfl⟩ (And.intro ⟨rfl,_,rfl,.inl rfl⟩ True.intro))))) rfl
         ·have lR:P=[]:=pj (by omega);subst lR;have yc:bf=[]:=by rw[<- dc];rfl
          subst yc;rw[ah (by simp)]
          first|rw[al rfl]|rw[ah iS]
          refine gH (wu (id:=3) rfl (fun i j hi=>absurd hi (Nat.not_lt_zero _))) ?_;(try refine ay ?_;and_intros <;> intros)
          all_goals first|exact dA|skip
        | some y=>
         obtain ⟨L,q⟩:=y;unfold rL at ae;obtain ⟨bB,de,fJ,jI,mC⟩:=ae;dsimp only[ph] at *;by_cases au:k<P.length
         ·have U:=ux _ (cc au);have yh:=ux _ (cc (show k - 1<P.length by omega));rw[drop_cons au] at hi;have wq:=BW (P.getD k default) ef;have hi:hJ (j2 (some (L,q)) (one (P.getD k default,j1 ef (P.getD k default)))) ((P.drop (k+1)).map (fun z=>one (z,j1 ef z)))=hJ none (P.map (fun z=>one (z,j1 ef z))):=hi;by_cases ht:P.getD (k - 1) default=P.getD k default - 1
          ·rw[FC (show q.aP+q.Data.length=P.getD k default by omega)] at hi;(repeat' first|(refine fI 37 ?_;(and_intros <;> intros))|fail);refine je (fun _:Unit=>⟨[(3,ab false),(4,.ptr 0 0 0 0),(8,.ptr 1 0 0 0),(9,I 0),(11,I (off+data.length)),(12,.own 2),(19,.ro (P.map encI)),(21,.own 3),(22,I k),(23,I (P.getD k default)),(129,.ro (P.map encI)),(130,I P.length),(131,I k)],[(0,some (.box 130 (e5 g))),(1,some (.box 130 [I 0,aX,I 0,I 0])),(2,some (.gF (some .i64) (ef.map gG))),(3,some (.ch 235 2 (L.map b5++[[I q.aP,.own 4]]))),(4,some (.row 5 1 (q.Data.map bm)))],5,Tryz.f153.ntmps⟩) (fun _=>True) ?_ ?_
           ·(try refine ay ?_;and_intros <;> intros);refine ⟨(),trivial,?_⟩;exact jG [(0,0),(1,1),(2,2),(3,3),(4,4)] rfl jH (And.intro ⟨rfl,_,rfl,.inl rfl⟩ (And.intro ⟨rfl,_,rfl,.inl rfl⟩ (And.intro ⟨rfl,_,rfl,.inl rfl⟩ (And.intro ⟨rfl,_,rfl,p3 (l:=L.map b5) (map_pure L) rfl⟩ (And.intro ⟨rfl,_,rfl,.inl rfl⟩ True.intro))))) rfl
           rintro ⟨⟩ -;refine gU [(15,4),(18,3)] (h:=?_);(refine Lt ?_;and_intros <;> intros)
           all_goals (refine ⟨(k+1,some (L,⟨q.aP,q.Data++[j1 ef (P.getD k default)]⟩)),b4,⟨au,hi,Lu⟩,?_⟩)
           dsimp only[ph];exact jG [(0,0),(1,1),(2,2),(3,3),(20,4)] rfl jH (And.intro ⟨rfl,_,rfl,.inl rfl⟩ (And.intro ⟨rfl,_,rfl,.inl rfl⟩ (And.intro ⟨rfl,_,rfl,.inl rfl⟩ (And.intro ⟨rfl,_,rfl,p3 (l:=L.map b5) (map_pure L) rfl⟩ (And.intro ⟨rfl,_,rfl,.inl rfl⟩ True.intro))))) rfl
          ·rw[FD (show ¬ q.aP+q.Data.length=P.getD k default by omega)] at hi;(repeat' first|(refine fI 37 ?_;(and_intros <;> intros))|fail);refine je (fun _:Unit=>⟨[(3,ab false),(4,.ptr 0 0 0 0),(8,.ptr 1 0 0 0),(9,I 0),(11,I (off+data.length)),(12,.own 2),(19,.ro (P.map encI)),(21,.own 6),(22,I k),(23,I (P.getD k default)),(129,.ro (P.map encI)),(130,I P.length),(131,I k)],[(0,some (.box 130 (e5 g))),(1,some (.box 130 [I 0,aX,I 0,I 0])),(2,some (.gF (some .i64) (ef.map gG))),(6,some (.ch 235 2 ((L.map b5++[[I q.aP,.own 4]])++[[I (P.getD k default),aX]]))),(4,some (.row 5 1 (q.Data.map bm)))],7,Tryz.f153.ntmps⟩) (fun _=>True) ?_ ?_
           ·(refine Lv ?_;and_intros <;> intros)
            all_goals try (exfalso;omega)
            refine ⟨(),trivial,?_⟩;exact jG [(0,0),(1,1),(2,2),(6,6),(4,4)] rfl jH (And.intro ⟨rfl,_,rfl,.inl rfl⟩ (And.intro ⟨rfl,_,rfl,.inl rfl⟩ (And.intro ⟨rfl,_,rfl,.inl rfl⟩ (And.intro ⟨rfl,_,rfl,Lj L rfl rfl⟩ (And.intro ⟨rfl,_,rfl,.inl rfl⟩ True.intro))))) rfl
           rintro ⟨⟩ -;refine gU [(18,6)] (h:=?_);(refine Lw ?_;and_intros <;> intros)
           all_goals (refine ⟨(k+1,some (L++[q],one (P.getD k default,j1 ef (P.getD k default)))),b4,⟨au,hi,Lx⟩,?_⟩)
           dsimp only[ph,one];refine (oB (id:=4) rfl).trans ((yi (id:=6) (m:=4) (A:=L.map b5) (a:=I q.aP) (B:=[[I (P.getD k default),.own 22]]) (dW:=(L++[q]).map b5++[[I (P.getD k default),.own 22]]) rfl rfl (by rw[lS];rfl) (by rw[ix,lS];rfl)).trans ?_);exact jG [(0,0),(1,1),(2,2),(6,3),(22,4)] rfl jH (And.intro ⟨rfl,_,rfl,.inl rfl⟩ (And.intro ⟨rfl,_,rfl,.inl rfl⟩ (And.intro ⟨rfl,_,rfl,.inl rfl⟩ (And.intro ⟨rfl,_,rfl,p3 (l:=(L++[q]).map b5) (map_pure _) rfl⟩ (And.intro ⟨rfl,_,rfl,.inl rfl⟩ True.intro))))) rfl
         ·have ca:k=P.length:=by omega
          subst ca;rw[iJ] at hi;have hr:bf=L++[q]:=by rw[<- dc];unfold h6;show gI (hJ none (P.map (fun z=>one (z,j1 ef z))))=_;rw[<- hi];rfl
          subst hr;refine Ly ?_;generalize L++[q]=bf at *;by_cases dG:4<bf.length
          ·rw[al dG];(try refine ay ?_;and_intros <;> intros)
           all_goals first|exact dA|skip
          ·rw[ah dG]
           first|rw[al rfl]|rw[ah iS]
           (try refine ay ?_;and_intros <;> intros)
           all_goals first|exact dA|skip
       ·intro i hi;have oC:i<L.length:=by simpa using hi
        have wv:((pl++[L[i].1])++eM (L.eraseIdx i)).Perm (eM ef):=by
         refine List.Perm.trans ?_ lu;rw[lS];refine List.Perm.append_left pl ?_;exact FE L i oC
        have hK:(L.eraseIdx i).length<L.length:=by rw[List.length_eraseIdx,al oC];omega
        rw[show(L.map gG)[i]=gG L[i] from List.getElem_map ..,<- BX];generalize L.eraseIdx i=FF at *;generalize L[i]=y at *;obtain ⟨uy,FG⟩:=y;dsimp only[gG] at *;clear dc rJ lu;(repeat' first|refine eP ((pl++[uy]).map encI) ?_|(refine ay ?_;(and_intros <;> intros))|fail)
        all_goals first
         | (exact⟨(FF,pl++[uy],some (gG (uy,FG))),(by dsimp only;exact hK),wv,ba⟩)
         | (exfalso;omega)
         | skip
     ·refine aH Tryz.func153 ?_;(repeat' first|refine bh J ?_|(refine h4 (hW _ _) (ht:=?_) (hff:=?_) <;> intro _ <;> try (exfalso;omega))|(refine h5 (hW _ _) (ht:=?_) (hff:=?_) <;> intro _ <;> try (exfalso;omega))|(refine fI 7 ?_;(and_intros <;> intros))|fail)
      all_goals try (exfalso;omega)
      refine je (fun _:Unit=>⟨[(1,I off),(2,.ro (data.map bm)),(3,ab true),(4,.ptr 0 0 0 0),(8,.ptr 1 0 0 0),(9,I 0),(11,I (off+data.length))],[(0,some (.box 130 (e5 g))),(1,some (.box 130 [I 0,aX,I 0,I 0]))],2,Tryz.f153.ntmps⟩) (fun _=>True) ?_ ?_
      ·(refine bH ax ?_;and_intros <;> intros)
       all_goals first
        | (exact⟨(),trivial,ba⟩)
        | (exfalso;simp at hf;omega)
        | skip
      rintro ⟨⟩ -;clear J ax hf;(try refine ay ?_;and_intros <;> intros)
      all_goals try (exfalso;omega)
      ·refine cv (fun x:Nat×List (Int×UInt8)=>⟨[(1,I off),(2,.ro (data.map bm)),(3,ab true),(4,.ptr 0 0 0 0),(8,.ptr 1 0 0 0),(9,I 0),(11,I (off+data.length)),(12,.own 2),(75,.ro (data.map bm)),(76,I data.length),(77,I x.1)],[(0,some (.box 130 (e5 g))),(1,some (.box 130 [I 0,aX,I 0,I 0])),(2,some (.map (some .i64) (x.2.map gG)))],3,Tryz.f153.ntmps⟩)
        (fun x=>x.1<=data.length/\fC x.2 ((dv (off+x.1) (data.drop x.1)).filter (fun y=>decide (g.bQ<=y.1)))=wo) (fun x=>data.length - x.1) (0,[]) ⟨cm _,by dsimp only;rw[List.drop_zero,show off+((0:Nat):Int)=off by omega];exact BR⟩ fP ?_
       clear BR;rintro ⟨k,M⟩ ⟨ag,hi⟩;dsimp only at *;by_cases au:k<data.length
       ·rw[BS au,List.filter_cons] at hi;by_cases aN:g.bQ<=off+k
        ·rw[al (decide_eq_true aN)] at hi;have hi:fC (ik (off+k) (data.getD k default) M) ((dv (off+(k+1:Nat)) (data.drop (k+1))).filter (fun y=>decide (g.bQ<=y.1)))=wo:=hi;have k4:=yd (off+k) (data.getD k default) M;(repeat' first|(refine BT (r:=(ik (off+k) (data.getD k default) M).map gG) ?_ (h:=?_);(focus ((exact k4))))|(refine eF ?_;(and_intros <;> intros))|refine dS ?_|fail)
         all_goals first
          | (exact⟨(k+1,ik (off+k) (data.getD k default) M),b4,⟨au,hi⟩,ba⟩)
          | (exfalso;omega)
          | skip
        ·rw[ah (by simp;omega)] at hi;(try refine ay ?_;and_intros <;> intros)
         all_goals first|exact BU|skip
       have ca:k=data.length:=by omega
       subst ca;rw[iJ] at hi;have hi:M=wo:=hi;subst hi;clear au ag;(try refine ay ?_;and_intros <;> intros);refine cv (fun x:Nat×List (Int×UInt8)=>⟨[(3,ab true),(4,.ptr 0 0 0 0),(8,.ptr 1 0 0 0),(9,I 0),(11,I (off+data.length)),(12,.own 2),(95,.ro (g.aD.map b5)),(96,I g.aD.length),(97,I x.1)],[(0,some (.box 130 (e5 g))),(1,some (.box 130 [I 0,aX,I 0,I 0])),(2,some (.map (some .i64) (x.2.map gG)))],3,Tryz.f153.ntmps⟩)
        (fun x=>x.1<=g.aD.length/\fC x.2 (dd (g.aD.drop x.1))=ef) (fun x=>g.aD.length - x.1) (0,M) ⟨cm _,wm⟩ fP ?_
       clear wm;rintro ⟨k,M⟩ ⟨ag,hi⟩;dsimp only at *;by_cases au:k<g.aD.length
       ·rw[drop_cons au] at hi;have hi:fC M (dv (g.aD.getD k default).aP (g.aD.getD k default).Data++dd (g.aD.drop (k+1)))=ef:=hi;have ar:=hm _ (cc au);have hI:=aw _ (cc au);(try refine ay ?_;and_intros <;> intros);refine cv (fun x:Nat×List (Int×UInt8)=>⟨[(3,ab true),(4,.ptr 0 0 0 0),(8,.ptr 1 0 0 0),(9,I 0),(11,I (off+data.length)),(12,.own 2),(95,.ro (g.aD.map b5)),(96,I g.aD.length),(97,I k),(16,.ptr 3 0 0 0),(102,.ro ((g.aD.getD k default).Data.map bm)),(103,I (g.aD.getD k default).Data.length),(104,I x.1)],[(0,some (.box 130 (e5 g))),(1,some (.box 130 [I 0,aX,I 0,I 0])),(2,some (.map (some .i64) (x.2.map gG))),(3,some (.box 235 [I (g.aD.getD k default).aP,.ro ((g.aD.getD k default).Data.map bm)]))],4,Tryz.f153.ntmps⟩)
         (fun x=>x.1<=(g.aD.getD k default).Data.length/\fC x.2 (dv ((g.aD.getD k default).aP+x.1) ((g.aD.getD k default).Data.drop x.1)++dd (g.aD.drop (k+1)))=ef) (fun x=>(g.aD.getD k default).Data.length - x.1) (0,M) ⟨cm _,by dsimp only;rw[List.drop_zero,show(g.aD.getD k default).aP+((0:Nat):Int)=(g.aD.getD k default).aP by omega];exact hi⟩ fP ?_
        clear hi;rintro ⟨j,M⟩ ⟨ad,hi⟩;dsimp only at *;by_cases fh:j<(g.aD.getD k default).Data.length
        ·rw[BS fh] at hi;have hi:fC (ik ((g.aD.getD k default).aP+j) ((g.aD.getD k default).Data.getD j default) M) (dv ((g.aD.getD k default).aP+(j+1:Nat)) ((g.aD.getD k default).Data.drop (j+1))++dd (g.aD.drop (k+1)))=ef:=hi;have k4:=yd ((g.aD.getD k default).aP+j) ((g.aD.getD k default).Data.getD j default) M;(repeat' first|(refine BT (r:=(ik ((g.aD.getD k default).aP+j) ((g.aD.getD k default).Data.getD j default) M).map gG) ?_ (h:=?_);(focus ((exact k4))))|(refine eF ?_;(and_intros <;> intros))|refine dS ?_|fail)
         all_goals first
          | (exact⟨(j+1,ik ((g.aD.getD k default).aP+j) ((g.aD.getD k default).Data.getD j default) M),b4,⟨fh,hi⟩,ba⟩)
          | (exfalso;omega)
          | skip
        ·have nR:j=(g.aD.getD k default).Data.length:=by omega
         subst nR;rw[iJ] at hi;have hi:fC M (dd (g.aD.drop (k+1)))=ef:=hi;(try refine ay ?_;and_intros <;> intros)
         all_goals first|exact BU|skip
       have ca:k=g.aD.length:=by omega
       subst ca;rw[iJ] at hi;have hi:M=ef:=hi;subst hi;clear au ag hm aw;generalize M=ef at *;(try refine ay ?_;and_intros <;> intros);refine cv (fun x:List (Int×UInt8)×List Int×Option (Value×Value)=>⟨[(3,ab true),(4,.ptr 0 0 0 0),(8,.ptr 1 0 0 0),(9,I 0),(11,I (off+data.length)),(12,.own 2),(19,.own 4),(118,.own 3)],[(0,some (.box 130 (e5 g))),(1,some (.box 130 [I 0,aX,I 0,I 0])),(2,some (.gF (some .i64) (ef.map gG))),(3,some (.iter (x.1.map gG) x.2.2)),(4,some (.row 3 1 (x.2.1.map encI)))],5,Tryz.f153.ntmps⟩)
        (fun x=>(x.2.1++eM x.1).Perm (eM ef)) (fun x=>x.1.length) (ef,[],none) (by dsimp only;rw[kg]) ((iR (n:=4) (t:=19) 3 1 rfl rfl rfl).trans fP) ?_
       rintro ⟨L,pl,cQ⟩ lu;dsimp only at *;have hI:pl.length+L.length=ef.length:=by have:=lu.length_eq;simpa[eM] using this
       (repeat' first|refine Lo (he:=?_) (h:=?_)|(refine ay ?_;(and_intros <;> intros))|fail)
       ·intro ai;have cw:L=[]:=List.map_eq_nil_iff.1 ai;subst cw;have lu:pl.Perm (eM ef):=by simpa[eM] using lu
        have rK:=Lp pl (by omega);have ye:=Fz pl;have yf:=FA pl;have FB:=yg pl;generalize mB pl=P at *;have uw:=ye.trans lu;have dc:=dc P yf uw;have ux:∀ x ∈ P,0<=x/\x<4611686018427387904:=fun x U=>rJ x (uw.mem_iff.1 U)
        have SA:P.length<=68157440:=by omega
        clear rJ lu ye yf FB uw nQ hI;(repeat' first|(refine dL [4] (rK) (h:=?_))|(refine fi [4] (rK) (h:=?_))|(refine gd [4] (rK) (h:=?_))|(refine fI 33 ?_;(and_intros <;> intros))|fail);clear rK;refine gH (bq:=⟨[(3,ab true),(4,.ptr 0 0 0 0),(8,.ptr 1 0 0 0),(9,I 0),(11,I (off+data.length)),(12,.own 2),(19,.ro (P.map encI))],[(0,some (.box 130 (e5 g))),(1,some (.box 130 [I 0,aX,I 0,I 0])),(2,some (.gF (some .i64) (ef.map gG)))],3,Tryz.f153.ntmps⟩) fP ?_;(try refine ay ?_;and_intros <;> intros);refine cv (fun x:Nat×Option (List bA×bA)=>ph g (off+data.length) true ef P x.1 x.2)
         (fun x=>x.1<=P.length/\hJ x.2 ((P.drop x.1).map (fun z=>one (z,j1 ef z)))=hJ none (P.map (fun z=>one (z,j1 ef z)))/\rL P x.1 x.2) (fun x=>P.length - x.1) (0,none) ⟨cm _,rfl,rfl⟩
         (((iR (n:=3) (t:=21) 235 2 rfl rfl rfl).trans (BV (id:=3) rfl)).trans dV) ?_
        rintro ⟨k,x⟩ ⟨ag,hi,ae⟩
        cases x with
        | none=>
         unfold rL at ae;dsimp only[ph] at *;subst ae;by_cases au:0<P.length
         ·have U:=ux _ (cc au);rw[drop_cons au] at hi;have wq:=BW (P.getD 0 default) ef;(repeat' first|(refine fI 37 ?_;(and_intros <;> intros))|fail);refine je (fun _:Unit=>⟨[(3,ab true),(4,.ptr 0 0 0 0),(8,.ptr 1 0 0 0),(9,I 0),(11,I (off+data.length)),(12,.own 2),(19,.ro (P.map encI)),(21,.own 5),(22,I ((0:Nat):Int)),(23,I (P.getD 0 default)),(129,.ro (P.map encI)),(130,I P.length),(131,I ((0:Nat):Int))],[(0,some (.box 130 (e5 g))),(1,some (.box 130 [I 0,aX,I 0,I 0])),(2,some (.gF (some .i64) (ef.map gG))),(5,some (.ch 235 2 (([]:List bA).map b5++[[I (P.getD 0 default),aX]])))],6,Tryz.f153.ntmps⟩) (fun _=>True) ?_ ?_
          ·(refine Lq ?_;and_intros <;> intros)
           all_goals first
            | (exact⟨(),trivial,ba⟩)
            | (exfalso;omega)
            | skip
          rintro ⟨⟩ -;refine gU [(18,5)] (h:=?_);(refine Lr ?_;and_intros <;> intros)
          all_goals (refine ⟨(0+1,some ([],one (P.getD 0 default,j1 ef (P.getD 0 default)))),b4,⟨au,hi,Ls⟩,?_⟩)
          dsimp only[ph,one];exact jG [(0,0),(1,1),(2,2),(5,3),(21,4)] rfl jH (And.intro ⟨rfl,_,rfl,.inl rfl⟩ (And.intro ⟨rfl,_,rfl,.inl rfl⟩ (And.intro ⟨rfl,_,rfl,.inl rfl⟩ (And.intro ⟨rfl,_,rfl,p3 (l:=[]) (by simp) rfl⟩ (And.intro ⟨rfl,_,rfl,.inl rfl⟩ True.intro))))) rfl
         ·have lR:P=[]:=pj (by omega);subst lR;have yc:bf=[]:=by rw[<- dc];rfl
          subst yc;rw[ah (by simp)]
          first|rw[al rfl]|rw[ah iS]
          refine gH (wu (id:=3) rfl (fun i j hi=>absurd hi (Nat.not_lt_zero _))) ?_;(try refine ay ?_;and_intros <;> intros)
          all_goals first|exact dA|skip
        | some y=>
         obtain ⟨L,q⟩:=y;unfold rL at ae;obtain ⟨bB,de,fJ,jI,mC⟩:=ae;dsimp only[ph] at *;by_cases au:k<P.length
         ·have U:=ux _ (cc au);have yh:=ux _ (cc (show k - 1<P.length by omega));rw[drop_cons au] at hi;have wq:=BW (P.getD k default) ef;have hi:hJ (j2 (some (L,q)) (one (P.getD k default,j1 ef (P.getD k default)))) ((P.drop (k+1)).map (fun z=>one (z,j1 ef z)))=hJ none (P.map (fun z=>one (z,j1 ef z))):=hi;by_cases ht:P.getD (k - 1) default=P.getD k default - 1
          ·rw[FC (show q.aP+q.Data.length=P.getD k default by omega)] at hi;(repeat' first|(refine fI 37 ?_;(and_intros <;> intros))|fail);refine je (fun _:Unit=>⟨[(3,ab true),(4,.ptr 0 0 0 0),(8,.ptr 1 0 0 0),(9,I 0),(11,I (off+data.length)),(12,.own 2),(19,.ro (P.map encI)),(21,.own 3),(22,I k),(23,I (P.getD k default)),(129,.ro (P.map encI)),(130,I P.length),(131,I k)],[(0,some (.box 130 (e5 g))),(1,some (.box 130 [I 0,aX,I 0,I 0])),(2,some (.gF (some .i64) (ef.map gG))),(3,some (.ch 235 2 (L.map b5++[[I q.aP,.own 4]]))),(4,some (.row 5 1 (q.Data.map bm)))],5,Tryz.f153.ntmps⟩) (fun _=>True) ?_ ?_
           ·(try refine ay ?_;and_intros <;> intros);refine ⟨(),trivial,?_⟩;exact jG [(0,0),(1,1),(2,2),(3,3),(4,4)] rfl jH (And.intro ⟨rfl,_,rfl,.inl rfl⟩ (And.intro ⟨rfl,_,rfl,.inl rfl⟩ (And.intro ⟨rfl,_,rfl,.inl rfl⟩ (And.intro ⟨rfl,_,rfl,p3 (l:=L.map b5) (map_pure L) rfl⟩ (And.intro ⟨rfl,_,rfl,.inl rfl⟩ True.intro))))) rfl
           rintro ⟨⟩ -;refine gU [(15,4),(18,3)] (h:=?_);(refine Lt ?_;and_intros <;> intros)
           all_goals (refine ⟨(k+1,some (L,⟨q.aP,q.Data++[j1 ef (P.getD k default)]⟩)),b4,⟨au,hi,Lu⟩,?_⟩)
           dsimp only[ph];exact jG [(0,0),(1,1),(2,2),(3,3),(20,4)] rfl jH (And.intro ⟨rfl,_,rfl,.inl rfl⟩ (And.intro ⟨rfl,_,rfl,.inl rfl⟩ (And.intro ⟨rfl,_,rfl,.inl rfl⟩ (And.intro ⟨rfl,_,rfl,p3 (l:=L.map b5) (map_pure L) rfl⟩ (And.intro ⟨rfl,_,rfl,.inl rfl⟩ True.intro))))) rfl
          ·rw[FD (show ¬ q.aP+q.Data.length=P.getD k default by omega)] at hi;(repeat' first|(refine fI 37 ?_;(and_intros <;> intros))|fail);refine je (fun _:Unit=>⟨[(3,ab true),(4,.ptr 0 0 0 0),(8,.ptr 1 0 0 0),(9,I 0),(11,I (off+data.length)),(12,.own 2),(19,.ro (P.map encI)),(21,.own 6),(22,I k),(23,I (P.getD k default)),(129,.ro (P.map encI)),(130,I P.length),(131,I k)],[(0,some (.box 130 (e5 g))),(1,some (.box 130 [I 0,aX,I 0,I 0])),(2,some (.gF (some .i64) (ef.map gG))),(6,some (.ch 235 2 ((L.map b5++[[I q.aP,.own 4]])++[[I (P.getD k default),aX]]))),(4,some (.row 5 1 (q.Data.map bm)))],7,Tryz.f153.ntmps⟩) (fun _=>True) ?_ ?_
           ·(refine Lv ?_;and_intros <;> intros)
            all_goals try (exfalso;omega)
            refine ⟨(),trivial,?_⟩;exact jG [(0,0),(1,1),(2,2),(6,6),(4,4)] rfl jH (And.intro ⟨rfl,_,rfl,.inl rfl⟩ (And.intro ⟨rfl,_,rfl,.inl rfl⟩ (And.intro ⟨rfl,_,rfl,.inl rfl⟩ (And.intro ⟨rfl,_,rfl,Lj L rfl rfl⟩ (And.intro ⟨rfl,_,rfl,.inl rfl⟩ True.intro))))) rfl
           rintro ⟨⟩ -;refine gU [(18,6)] (h:=?_);(refine Lw ?_;and_intros <;> intros)
           all_goals (refine ⟨(k+1,some (L++[q],one (P.getD k default,j1 ef (P.getD k default)))),b4,⟨au,hi,Lx⟩,?_⟩)
           dsimp only[ph,one];refine (oB (id:=4) rfl).trans ((yi (id:=6) (m:=4) (A:=L.map b5) (a:=I q.aP) (B:=[[I (P.getD k default),.own 22]]) (dW:=(L++[q]).map b5++[[I (P.getD k default),.own 22]]) rfl rfl (by rw[lS];rfl) (by rw[ix,lS];rfl)).trans ?_);exact jG [(0,0),(1,1),(2,2),(6,3),(22,4)] rfl jH (And.intro ⟨rfl,_,rfl,.inl rfl⟩ (And.intro ⟨rfl,_,rfl,.inl rfl⟩ (And.intro ⟨rfl,_,rfl,.inl rfl⟩ (And.intro ⟨rfl,_,rfl,p3 (l:=(L++[q]).map b5) (map_pure _) rfl⟩ (And.intro ⟨rfl,_,rfl,.inl rfl⟩ True.intro))))) rfl
         ·have ca:k=P.length:=by omega
          subst ca;rw[iJ] at hi;have hr:bf=L++[q]:=by rw[<- dc];unfold h6;show gI (hJ none (P.map (fun z=>one (z,j1 ef z))))=_;rw[<- hi];rfl
          subst hr;refine Ly ?_;generalize L++[q]=bf at *;by_cases dG:4<bf.length
          ·rw[al dG];(try refine ay ?_;and_intros <;> intros)
           all_goals first|exact dA|skip
          ·rw[ah dG]
           first|rw[al rfl]|rw[ah iS]
           (try refine ay ?_;and_intros <;> intros)
           all_goals first|exact dA|skip
       ·intro i hi;have oC:i<L.length:=by simpa using hi
        have wv:((pl++[L[i].1])++eM (L.eraseIdx i)).Perm (eM ef):=by
         refine List.Perm.trans ?_ lu;rw[lS];refine List.Perm.append_left pl ?_;exact FE L i oC
        have hK:(L.eraseIdx i).length<L.length:=by rw[List.length_eraseIdx,al oC];omega
        rw[show(L.map gG)[i]=gG L[i] from List.getElem_map ..,<- BX];generalize L.eraseIdx i=FF at *;generalize L[i]=y at *;obtain ⟨uy,FG⟩:=y;dsimp only[gG] at *;clear dc rJ lu;(repeat' first|refine eP ((pl++[uy]).map encI) ?_|(refine ay ?_;(and_intros <;> intros))|fail)
        all_goals first
         | (exact⟨(FF,pl++[uy],some (gG (uy,FG))),(by dsimp only;exact hK),wv,ba⟩)
         | (exfalso;omega)
         | skip
 ·rw[al ai];generalize ev g=e at *;refine aH Tryz.func153 ?_;(refine bH J ?_;and_intros <;> intros)
  all_goals first|exact dA|skip
theorem SB (c:aG) (n:Nat) (f:bo) (ao:c.aq.length<=4) (hn:n<c.aq.length) (av:ev (cV c n).In=0) (lv:aE (f.aP - eO (cV c n).In)) (kH:0<=c.gP/\c.gP<=4) :
  Fn Tryz.prog 152 [.agg (cj c),I n,.agg (aO f)] (.bN [.agg (cj (oD c n f).1),I (oD c n f).2]):=by
 obtain ⟨aA,space,bg,bc,bp,ids,bJ,opened,aC,bF,queue,last,bK,bS,code⟩:=c;obtain ⟨kind,cn,off,fin,dj,ranges,data⟩:=f;unfold oD cV dw gJ dM;unfold cV at av lv;dsimp only at *;have q0:=BM (aC.getD n default).In av;have nf:=Lz bc (off - eO (aC.getD n default).In) lv;unfold aE at lv;by_cases hcut:(aC.getD n default).Cut=true
 ·rw[al hcut];refine aH Tryz.func152 ?_;(repeat' first|refine bh q0 ?_|refine bh nf ?_|(refine rM ?_ ?_;(exact LA))|(refine ay ?_;(and_intros <;> intros))|fail)
  all_goals (try dsimp only at *)
  all_goals first|exact dA|skip
 ·rw[ah hcut];replace hcut:(aC.getD n default).Cut=false:=by revert hcut;cases (aC.getD n default).Cut <;> simp
  by_cases lx:off<eO (aC.getD n default).In\/(0<=(aC.getD n default).In.c8/\(aC.getD n default).In.c8≠off)
  ·rw[al lx];refine aH Tryz.func152 ?_;(repeat' first|refine bh q0 ?_|refine bh nf ?_|(refine ng ?_ ?_;(exact uz))|(refine ay ?_;(and_intros <;> intros))|fail)
   all_goals (try dsimp only at *)
   all_goals first|exact dA|skip
  ·rw[ah lx];by_cases pk:(aC.getD n default).In.bj<off
   ·rw[al pk];refine aH Tryz.func152 ?_;(repeat' first|refine bh q0 ?_|refine bh nf ?_|(refine ng ?_ ?_;(exact uz))|(refine ay ?_;(and_intros <;> intros))|fail)
    all_goals (try dsimp only at *)
    all_goals first|exact dA|skip
   ·rw[ah pk];generalize j3 bc (off - eO (aC.getD n default).In)=FS at *;obtain ⟨dv,uA⟩:=FS;dsimp only at *;have hw:IntKind.i64.wrap (off - eO (aC.getD n default).In)=off - eO (aC.getD n default).In:=by rw[IntKind.wrap_i64];omega
    have rN:=nf;rw[<- hw] at rN;by_cases rO:uA=0
    ·subst rO;rw[ah (fun h=>h rfl)];by_cases nS:bK=4
     ·rw[al nS];refine aH Tryz.func152 ?_;(repeat' first|refine bh q0 ?_|refine bh nf ?_|refine bh rN ?_|(refine ng ?_ ?_;(exact uz))|(refine ay ?_;(and_intros <;> intros))|fail)
      all_goals (try dsimp only at *)
      all_goals first|exact dA|skip
     ·rw[ah nS];have gu:=uB ⟨aA,space,bg,dv,bp,ids,bJ,opened,aC,bF,queue,last,(bK+1),bS,code⟩ n ⟨(aC.getD n default).Id,⟨off,[],off,(aC.getD n default).In.bj⟩,(aC.getD n default).Read,true,true,(aC.getD n default).Out⟩ b4 hn;unfold dw cj at gu;dsimp only at gu;refine aH Tryz.func152 ?_;have yj:IntKind.i64.wrap (bK+1)=bK+1:=by rw[IntKind.wrap_i64];omega
      (repeat' first|refine bh q0 ?_|refine bh nf ?_|refine bh rN ?_|(refine ng ?_ ?_;(exact uz))|(refine fI 18 ?_;(and_intros <;> intros))|fail)
      all_goals try (exfalso;omega)
      all_goals (try rw[yj])
      all_goals try (refine bH gu ?_;and_intros <;> intros)
      all_goals (try dsimp only at *)
      all_goals first|exact dA|skip
    ·rw[al rO];refine aH Tryz.func152 ?_;(repeat' first|refine bh q0 ?_|refine bh nf ?_|refine bh rN ?_|(refine ng ?_ ?_;(exact uz))|(refine ay ?_;(and_intros <;> intros))|fail)
     all_goals (try dsimp only at *)
     all_goals first|exact dA|skip
end
end Go.Proofs.YtendheafcbickaaGreat
