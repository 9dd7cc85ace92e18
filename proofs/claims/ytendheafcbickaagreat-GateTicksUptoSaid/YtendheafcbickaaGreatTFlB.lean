
import Derived.Test.YtendheafcbickaaGreatTZip
import Derived.Test.YtendheafcbickaaGreatTGo
import Derived.Test.YtendheafcbickaaGreatTMg36
set_option linter.unusedVariables false
set_option linter.unusedSimpArgs false
set_option maxHeartbeats 16000000
namespace Go.Proofs.YtendheafcbickaaGreat
set_option maxRecDepth 100000
attribute [local irreducible] cq a8 bw GStep Fn cu bk cU
theorem Qj (c:a6) (hw:ej c) (gK:c.iz=true):cU Tryz.prog 206 [.ptr 0 0 0 0] [(0,some (.box 116 (e2 c)))] 1 (kV (nA c c.Queue)) [] 1:=by
 have I:=IE c.bf hw.1
 have lK:=DG c.bf hw.1
 have J:=Aj c.Queue hw.2.2.2.2.2.2.2.2.2.2.1 hw.2.2.2.2.2.2.2.2.2.1
 have ch:=qX { c with bf:=(jE c.bf).1,ke:=false,Queue:=[] } ⟨lK,hw.2.1,hw.2.2.1,hw.2.2.2.1,hw.2.2.2.2.1,hw.2.2.2.2.2.1,hw.2.2.2.2.2.2.1,hw.2.2.2.2.2.2.2.1,hw.2.2.2.2.2.2.2.2.1,by simp,(fun y ai=>by cases ai),hw.2.2.2.2.2.2.2.2.2.2.2⟩
 clear hw lK
 unfold nA kV
 rw[gK,if_pos rfl]
 generalize jE c.bf=Q at *
 obtain ⟨s,n,e⟩:=Q
 obtain ⟨aA,space,bp,bU,credit,ids,cH,opened,bE,b3,queue,last,cL,dw,code⟩:=c
 dsimp only at *
 subst gK
 by_cases hq:queue.length=0
 ·rw[if_pos hq]
  refine gG ae Tryz.func206 rfl ae (by rfl) ?_
  (repeat' first|(refine ab ?_;((repeat' first|exact True.intro|refine R.mk ?_ ?_);all_goals intros))|fail "")
  all_goals (try dsimp only at *)
  all_goals first
   | (exact fg)
   | (exfalso;omega)
   | skip
 ·rw[if_neg hq]
  by_cases he:e=0
  ·subst he
   rw[if_pos rfl]
   unfold gp at ch
   refine gG ae Tryz.func206 rfl ae (by rfl) ?_
   (repeat' first|(refine ar (I) (h:=?_))|(refine au (I) (h:=?_))|(refine ar (J) (h:=?_))|(refine au (J) (h:=?_))|(refine eL [] (ch) (h:=?_))|(refine eM [] (ch) (h:=?_))|(refine kc (ch) (h:=?_))|(refine ab ?_;((repeat' first|exact True.intro|refine R.mk ?_ ?_);all_goals intros))|fail "")
   all_goals (try dsimp only at *)
   all_goals first
    | (exact fg)
    | (exfalso;omega)
    | skip
  ·rw[if_neg he]
   refine gG ae Tryz.func206 rfl ae (by rfl) ?_
   (repeat' first|(refine ar (I) (h:=?_))|(refine au (I) (h:=?_))|(refine ab ?_;((repeat' first|exact True.intro|refine R.mk ?_ ?_);all_goals intros))|fail "")
   all_goals (try dsimp only at *)
   all_goals first
    | (exact fg)
    | (exfalso;omega)
    | skip
def sR (l:List aQ):List V:=[.lit (.int .i64 2),.lit (.int .i64 0),.lit (.int .i64 0),.lit (.bool false),.lit (.int .i64 0),.ro (l.reverse.map aD),.lit (.slice none 0 0)]
theorem IF (l:List aQ):∀ i j,i<[sR l].length->j<(bH [sR l] i).length->q3 (bx (bH [sR l] i) j) (bx (bH ([rA l].map aW) i) j):=by
 intro i j hi ah
 obtain rfl:i=0:=by simp at hi;omega
 have ah:j<7:=ah
 match j,ah with
 | 0,_|1,_|2,_|3,_|4,_|5,_=>exact .inl rfl
 | 6,_=>exact .inr ⟨rfl,rfl⟩
 | n+7,h=>omega
theorem IG (l:List aQ):∀ i,i<[sR l].length->(bH ([rA l].map aW) i).length=(bH [sR l] i).length:=by
 intro i hi
 obtain rfl:i=0:=by simp at hi;omega
 rfl
theorem DH {c:a6} {n:Nat} (h:cV (lB c) n):∀ j,j<n->0<=(c.aO.getD j default).Id:=by
 intro j
 induction j with
 | zero=>intro ah;have:=(h 0 ah).1;rw[yY] at this;omega
 | succ j cf=>intro ah;have I:=(h (j+1) ah).1;rw[yZ] at I;have:=cf (by omega);omega
def IH (c:a6) (s:c8):a6:={ c with bf:=s,ke:=false }
theorem Qk {c:a6} {s:c8} (hw:ej c) (h:eF s):ej (IH c s):=by
 obtain ⟨w0,cy,cR,w3,ef,dU,eS,fV,h0,ju,jf,jv,jw,k9⟩:=hw
 exact⟨h,cy,cR,w3,ef,dU,eS,fV,h0,ju,jf,jv,jw,k9⟩
theorem Ql {c:a6} {pl:List dV} {pu:Int} {tq:List bc} {p:fM} {s:c8} (hw:ej c) (I:pl.length<=4) (J:∀ y,y ∈ pl->gM y) (av:0<=pu/\pu<=4611686018427387903) (bl:tq.length<=12) (dm:∀ y,y ∈ tq->dC y) (fr:hE p) (gB:eF s) :
  ej (pg (oH c pl pu) tq p s):=by
 obtain ⟨w0,cy,cR,w3,ef,dU,eS,fV,h0,ju,jf,jv,jw,k9⟩:=hw
 exact⟨gB,fr,cR,⟨w3.1,by unfold pg oH aF;dsimp only;omega⟩,ef,dU,eS,by unfold pg oH;dsimp only;omega,J,by unfold pg;dsimp only;omega,dm,jv,jw,k9⟩
theorem II {s:c8} (h:hZ s=0):o4 s:=by
 unfold hZ at h
 split at h
 ·assumption
 ·cases h
theorem PW (c:a6) (now:Int) (hu:W.ej c):Fn Tryz.prog 101 [.agg (e2 c),.lit (.int .i64 now)] (kV (iE c now)):=by
 have hw:=W.pT c hu
 have I:=Ck c hw
 have ch:=qX c hw
 unfold iE
 rcases tZ c with⟨af,bu⟩ | ⟨af,bu⟩
 ·rw[af] at I ⊢
  rw[if_pos rfl]
  by_cases hH:0<=now/\now<=1099511627776
  ·rw[if_pos hH]
   obtain ⟨aA,space,bp,bU,credit,ids,cH,opened,bE,b3,queue,last,cL,dw,code⟩:=c
   cases dw
   ·rw[if_neg Bool.false_ne_true]
    have fY:=bu.1.1.1
    have qi:=Qm space hw.1
    have lK:=hw.1
    have nj:=hw.2.1
    have yS:=hw.2.2.2.2.2.2.2.2.2.1
    have si:=hw.2.2.2.2.2.2.2.2.2.2.1
    have ph:iG queue:=fun f hf=>⟨si f hf,(sS (Q:=fun x=>eu x=0)).1 bu.1.2 f hf⟩
    have mf:∀ y,y ∈ bE->W.gM y/\0<=y.Id/\y.Id<=4611686018427387903:=fun y ai=>⟨hu.2.2.2.2.2.2.2.2.1 y ai,by
     obtain ⟨i,hi,rfl⟩:=List.getElem_of_mem ai
     have pj:=bu.1.1.2
     have fZ:=fY.2
     unfold iR at fZ
     dsimp only at pj fZ hi
     have I:=(DH pj i hi)
     have J:=(pj i hi).2.1
     dsimp only at I J
     rw[List.getD_eq_getElem?_getD,List.getElem?_eq_getElem hi] at I J
     dsimp only[Option.getD_some] at I J
     omega⟩
    have kB:hZ space=0:=fY.1.1
    have jC:h4 credit:=by have h:=fY.1.2.2.2;dsimp only at h;unfold o0 at h;split at h;(assumption);(cases h)
    have fW:bE.length<=4:=by have:=fY.2;unfold iR at this;dsimp only at this;omega
    have sj:queue.length<=12:=by have:=fY.2;unfold iR at this;dsimp only at this;omega
    obtain ⟨A,b1⟩:∃ A,A=lL ⟨aA,space,bp,bU,credit,ids,cH,opened,bE,b3,queue,last,cL,false,code⟩:=⟨_,rfl⟩
    have oI:=(II kB).1.1
    unfold gN at oI
    have n3:iG A/\A.length<=1:=by
     subst b1
     unfold lL
     split
     ·rename_i h
      have:=DI (l:=space.cg) lK.2.2.2.2.2.1 oI.2.2.2.2.2.1 h.2 oI.2.2.2.2.2.2.1
      exact⟨fun f hf=>by rw[List.mem_singleton] at hf;exact hf ▸ this,by simp⟩
     ·exact⟨(fun f hf=>by cases hf),by simp⟩
    have IJ:wv space=(space.cg.reverse,0):=by unfold wv;rw[kB,if_neg (by decide)]
    rw[IJ] at qi
    dsimp only at qi
    unfold Ak mg
    rw[<- b1]
    clear bu fY hu
    unfold gp at ch
    dsimp only at *
    refine aU ae Tryz.func101 rfl ae ?_
    (repeat' first|(refine ar (I) (h:=?_))|(refine au (I) (h:=?_))|(refine eL [] (ch) (h:=?_))|(refine eM [] (ch) (h:=?_))|(refine kc (ch) (h:=?_))|(refine hB 9 ?_;((repeat' first|exact True.intro|refine R.mk ?_ ?_);all_goals intros))|fail "")
    refine lZ (bG:=⟨[(1,.lit (.int .i64 now)),(4,.ptr 1 0 0 0),(9,.ptr 2 0 0 0)],[(1,some (.box 51 [.lit (.bool false),.lit (.int .i64 0),.lit (.slice none 0 0),.lit (.int .i64 0),.lit (.slice none 0 0),.lit (.slice none 0 0),.lit (.int .i64 0),.lit (.int .i64 0),.lit (.int .i64 0),.lit (.int .i64 0),.lit (.int .i64 0),.lit (.int .i64 0),.lit (.int .i64 0),.lit (.int .i64 0),.lit (.int .i64 0),.lit (.int .i64 0),.lit (.int .i64 0),.lit (.slice none 0 0),.lit (.bool false),.lit (.slice none 0 0),.lit (.int .i64 0),.lit (.int .i64 0),.lit (.bool false),.lit (.int .i64 0)])),(2,some (.box 116 [.lit (.bool aA),.lit (.int .i64 space.Next),.ro (space.az.map bY),.lit (.int .i64 space.dn),.ro (space.cg.map aD),.ro (space.b7.map encI),.lit (.int .i64 bp.cK),.lit (.int .i64 bp.eE),.lit (.int .i64 bp.dW),.lit (.int .i64 bp.Since),.lit (.int .i64 bU.Max),.lit (.int .i64 bU.cm),.lit (.int .i64 credit.Max),.lit (.int .i64 credit.cm),.lit (.int .i64 ids),.lit (.int .i64 cH),.lit (.int .i64 opened),.ro (bE.map cv),.lit (.bool b3),.ro (queue.map aW),.lit (.int .i64 last),.lit (.int .i64 cL),.lit (.bool false),.lit (.int .i64 code)]))],3,Tryz.f101.ntmps⟩) gf ?_
    (repeat' first|(refine hB 10 ?_;((repeat' first|exact True.intro|refine R.mk ?_ ?_);all_goals intros))|fail "")
    refine fG (fun _:Unit=>⟨[(1,.lit (.int .i64 now)),(4,.ptr 1 0 0 0),(9,.ptr 2 0 0 0),(10,.ro (A.map aW))],[(1,some (.box 51 [.lit (.bool false),.lit (.int .i64 0),.lit (.slice none 0 0),.lit (.int .i64 0),.lit (.slice none 0 0),.lit (.slice none 0 0),.lit (.int .i64 0),.lit (.int .i64 0),.lit (.int .i64 0),.lit (.int .i64 0),.lit (.int .i64 0),.lit (.int .i64 0),.lit (.int .i64 0),.lit (.int .i64 0),.lit (.int .i64 0),.lit (.int .i64 0),.lit (.int .i64 0),.lit (.slice none 0 0),.lit (.bool false),.lit (.slice none 0 0),.lit (.int .i64 0),.lit (.int .i64 0),.lit (.bool false),.lit (.int .i64 0)])),(2,some (.box 116 [.lit (.bool aA),.lit (.int .i64 space.Next),.ro (space.az.map bY),.lit (.int .i64 space.dn),.ro (space.cg.map aD),.ro (space.b7.map encI),.lit (.int .i64 bp.cK),.lit (.int .i64 bp.eE),.lit (.int .i64 bp.dW),.lit (.int .i64 bp.Since),.lit (.int .i64 bU.Max),.lit (.int .i64 bU.cm),.lit (.int .i64 credit.Max),.lit (.int .i64 credit.cm),.lit (.int .i64 ids),.lit (.int .i64 cH),.lit (.int .i64 opened),.ro (bE.map cv),.lit (.bool b3),.ro (queue.map aW),.lit (.int .i64 last),.lit (.int .i64 cL),.lit (.bool false),.lit (.int .i64 code)]))],3,Tryz.f101.ntmps⟩) (fun _=>True) ?_ ?_
    ·have lx:space.cg.reverse.length=space.cg.length:=List.length_reverse
     unfold lL at b1
     dsimp only at b1
     by_cases bj:b3=true/\0<space.cg.length
     ·rw[if_pos bj] at b1
      subst b1
      obtain ⟨hb,hh⟩:=bj
      subst hb
      (repeat' first|(refine ar (qi) (h:=?_))|(refine au (qi) (h:=?_))|(refine ab ?_;((repeat' first|exact True.intro|refine R.mk ?_ ?_);all_goals intros))|fail "")
      all_goals first
       | (refine ⟨(),trivial,?_⟩;refine (y4 10 (l:=[sR space.cg]) (fl:=[rA space.cg].map aW) rfl rfl (IG _) (IF _)).trans ?_;(exact ax))
       | (exfalso;omega)
       | skip
     ·rw[if_neg bj] at b1
      subst b1
      cases b3
      ·(repeat' first|(refine ar (qi) (h:=?_))|(refine au (qi) (h:=?_))|(refine ab ?_;((repeat' first|exact True.intro|refine R.mk ?_ ?_);all_goals intros))|fail "")
       all_goals first
        | (refine ⟨(),trivial,?_⟩;refine (Al 10 rfl).trans ?_;(exact ax))
        | (exfalso;omega)
        | skip
      ·have bj:¬ 0<space.cg.length:=fun h=>bj ⟨rfl,h⟩
       (repeat' first|(refine ar (qi) (h:=?_))|(refine au (qi) (h:=?_))|(refine ab ?_;((repeat' first|exact True.intro|refine R.mk ?_ ?_);all_goals intros))|fail "")
       all_goals first
        | (refine ⟨(),trivial,?_⟩;refine (Al 10 rfl).trans ?_;(exact ax))
        | (exfalso;omega)
        | skip
    rintro ⟨⟩ -
    clear qi IJ b1
    have rB:=IK A (fun f hf=>(n3.1 f hf).1) (by omega)
    obtain ⟨qj,sT,IL,IM,IP⟩:=Am queue A ph n3.1 (by omega)
    (repeat' first|(refine eL [] (ch) (h:=?_))|(refine eM [] (ch) (h:=?_))|(refine kc (ch) (h:=?_))|(refine hB 14 ?_;((repeat' first|exact True.intro|refine R.mk ?_ ?_);all_goals intros))|fail "")
    refine lZ (bG:=⟨[(1,.lit (.int .i64 now)),(4,.ptr 1 0 0 0),(9,.ptr 2 0 0 0),(10,.ro (A.map aW)),(13,.ptr 3 0 0 0)],[(1,some (.box 51 [.lit (.bool false),.lit (.int .i64 0),.lit (.slice none 0 0),.lit (.int .i64 0),.lit (.slice none 0 0),.lit (.slice none 0 0),.lit (.int .i64 0),.lit (.int .i64 0),.lit (.int .i64 0),.lit (.int .i64 0),.lit (.int .i64 0),.lit (.int .i64 0),.lit (.int .i64 0),.lit (.int .i64 0),.lit (.int .i64 0),.lit (.int .i64 0),.lit (.int .i64 0),.lit (.slice none 0 0),.lit (.bool false),.lit (.slice none 0 0),.lit (.int .i64 0),.lit (.int .i64 0),.lit (.bool false),.lit (.int .i64 0)])),(2,some (.box 116 [.lit (.bool aA),.lit (.int .i64 space.Next),.ro (space.az.map bY),.lit (.int .i64 space.dn),.ro (space.cg.map aD),.ro (space.b7.map encI),.lit (.int .i64 bp.cK),.lit (.int .i64 bp.eE),.lit (.int .i64 bp.dW),.lit (.int .i64 bp.Since),.lit (.int .i64 bU.Max),.lit (.int .i64 bU.cm),.lit (.int .i64 credit.Max),.lit (.int .i64 credit.cm),.lit (.int .i64 ids),.lit (.int .i64 cH),.lit (.int .i64 opened),.ro (bE.map cv),.lit (.bool b3),.ro (queue.map aW),.lit (.int .i64 last),.lit (.int .i64 cL),.lit (.bool false),.lit (.int .i64 code)])),(3,some (.box 116 [.lit (.bool aA),.lit (.int .i64 space.Next),.ro (space.az.map bY),.lit (.int .i64 space.dn),.ro (space.cg.map aD),.ro (space.b7.map encI),.lit (.int .i64 bp.cK),.lit (.int .i64 bp.eE),.lit (.int .i64 bp.dW),.lit (.int .i64 bp.Since),.lit (.int .i64 bU.Max),.lit (.int .i64 bU.cm),.lit (.int .i64 credit.Max),.lit (.int .i64 credit.cm),.lit (.int .i64 ids),.lit (.int .i64 cH),.lit (.int .i64 opened),.own 4,.lit (.bool b3),.ro (queue.map aW),.lit (.int .i64 last),.lit (.int .i64 cL),.lit (.bool false),.lit (.int .i64 code)])),(4,some (.row 134 16 (bE.map cv)))],5,Tryz.f101.ntmps⟩) gf ?_
    (repeat' first|(refine eL [] (rB) (h:=?_))|(refine eM [] (rB) (h:=?_))|(refine kc (rB) (h:=?_))|(refine hB 15 ?_;((repeat' first|exact True.intro|refine R.mk ?_ ?_);all_goals intros))|fail "")
    generalize aV:jo queue A=T at *
    obtain ⟨fu,tq⟩:=T
    dsimp only at *
    refine fG (fun _:Unit=>⟨[(1,.lit (.int .i64 now)),(4,.ptr 1 0 0 0),(9,.ptr 2 0 0 0),(10,.ro (A.map aW)),(13,.ptr 3 0 0 0),(14,.own 5)],[(1,some (.box 51 [.lit (.bool false),.lit (.int .i64 0),.lit (.slice none 0 0),.lit (.int .i64 0),.lit (.slice none 0 0),.lit (.slice none 0 0),.lit (.int .i64 0),.lit (.int .i64 0),.lit (.int .i64 0),.lit (.int .i64 0),.lit (.int .i64 0),.lit (.int .i64 0),.lit (.int .i64 0),.lit (.int .i64 0),.lit (.int .i64 0),.lit (.int .i64 0),.lit (.int .i64 0),.lit (.slice none 0 0),.lit (.bool false),.lit (.slice none 0 0),.lit (.int .i64 0),.lit (.int .i64 0),.lit (.bool false),.lit (.int .i64 0)])),(2,some (.box 116 [.lit (.bool aA),.lit (.int .i64 space.Next),.ro (space.az.map bY),.lit (.int .i64 space.dn),.ro (space.cg.map aD),.ro (space.b7.map encI),.lit (.int .i64 bp.cK),.lit (.int .i64 bp.eE),.lit (.int .i64 bp.dW),.lit (.int .i64 bp.Since),.lit (.int .i64 bU.Max),.lit (.int .i64 bU.cm),.lit (.int .i64 credit.Max),.lit (.int .i64 credit.cm),.lit (.int .i64 ids),.lit (.int .i64 cH),.lit (.int .i64 opened),.ro (bE.map cv),.lit (.bool b3),.ro (queue.map aW),.lit (.int .i64 last),.lit (.int .i64 cL),.lit (.bool false),.lit (.int .i64 code)])),(3,some (.box 116 [.lit (.bool aA),.lit (.int .i64 space.Next),.ro (space.az.map bY),.lit (.int .i64 space.dn),.ro (space.cg.map aD),.ro (space.b7.map encI),.lit (.int .i64 bp.cK),.lit (.int .i64 bp.eE),.lit (.int .i64 bp.dW),.lit (.int .i64 bp.Since),.lit (.int .i64 bU.Max),.lit (.int .i64 bU.cm),.lit (.int .i64 credit.Max),.lit (.int .i64 credit.cm),.lit (.int .i64 ids),.lit (.int .i64 cH),.lit (.int .i64 opened),.own 4,.lit (.bool b3),.ro (tq.map aW),.lit (.int .i64 last),.lit (.int .i64 cL),.lit (.bool false),.lit (.int .i64 code)])),(4,some (.row 134 16 (bE.map cv))),(5,some (.row 111 7 (fu.map aW)))],6,Tryz.f101.ntmps⟩) (fun _=>True) ?_ ?_
    ·refine uB ?_
     refine b2 (fun x:List bc×List bc=>⟨[(1,.lit (.int .i64 now)),(4,.ptr 1 0 0 0),(9,.ptr 2 0 0 0),(10,.ro (A.map aW)),(13,.ptr 3 0 0 0),(14,.own 5)],[(1,some (.box 51 [.lit (.bool false),.lit (.int .i64 0),.lit (.slice none 0 0),.lit (.int .i64 0),.lit (.slice none 0 0),.lit (.slice none 0 0),.lit (.int .i64 0),.lit (.int .i64 0),.lit (.int .i64 0),.lit (.int .i64 0),.lit (.int .i64 0),.lit (.int .i64 0),.lit (.int .i64 0),.lit (.int .i64 0),.lit (.int .i64 0),.lit (.int .i64 0),.lit (.int .i64 0),.lit (.slice none 0 0),.lit (.bool false),.lit (.slice none 0 0),.lit (.int .i64 0),.lit (.int .i64 0),.lit (.bool false),.lit (.int .i64 0)])),(2,some (.box 116 [.lit (.bool aA),.lit (.int .i64 space.Next),.ro (space.az.map bY),.lit (.int .i64 space.dn),.ro (space.cg.map aD),.ro (space.b7.map encI),.lit (.int .i64 bp.cK),.lit (.int .i64 bp.eE),.lit (.int .i64 bp.dW),.lit (.int .i64 bp.Since),.lit (.int .i64 bU.Max),.lit (.int .i64 bU.cm),.lit (.int .i64 credit.Max),.lit (.int .i64 credit.cm),.lit (.int .i64 ids),.lit (.int .i64 cH),.lit (.int .i64 opened),.ro (bE.map cv),.lit (.bool b3),.ro (queue.map aW),.lit (.int .i64 last),.lit (.int .i64 cL),.lit (.bool false),.lit (.int .i64 code)])),(3,some (.box 116 [.lit (.bool aA),.lit (.int .i64 space.Next),.ro (space.az.map bY),.lit (.int .i64 space.dn),.ro (space.cg.map aD),.ro (space.b7.map encI),.lit (.int .i64 bp.cK),.lit (.int .i64 bp.eE),.lit (.int .i64 bp.dW),.lit (.int .i64 bp.Since),.lit (.int .i64 bU.Max),.lit (.int .i64 bU.cm),.lit (.int .i64 credit.Max),.lit (.int .i64 credit.cm),.lit (.int .i64 ids),.lit (.int .i64 cH),.lit (.int .i64 opened),.own 4,.lit (.bool b3),.ro (x.2.map aW),.lit (.int .i64 last),.lit (.int .i64 cL),.lit (.bool false),.lit (.int .i64 code)])),(4,some (.row 134 16 (bE.map cv))),(5,some (.row 111 7 (x.1.map aW)))],6,Tryz.f101.ntmps⟩)
      (fun x=>jo x.2 x.1=(fu,tq)/\iG x.1/\iG x.2/\x.1.length<=11/\x.2.length<=12) (fun x=>x.2.length) (A,queue) ⟨aV,n3.1,ph,by dsimp only;omega,sj⟩ gf ?_
     clear aV
     rintro ⟨o,q⟩ ⟨aV,aa,hq,Qn,DJ⟩
     dsimp only at *
     have l5:=zu o (fun f hf=>(aa f hf).1) (fun f hf=>(aa f hf).2) (by omega)
     have bh:=uo (fun f hf=>(aa f hf).2)
     have hT:q≠[]->o.length<11/\eP o+((ib (q.getD 0 default)).length:Int)<=352 -> ∃ f eU,q=f :: eU /\ jo eU (o++[f])=(fu,tq):=fun I J=>by
      cases q with
      | nil=>exact absurd rfl I
      | cons f eU=>
       have J:o.length<11/\eP o+((ib f).length:Int)<=352:=J
       unfold jo at aV
       rw[if_pos J] at aV
       exact⟨f,eU,rfl,aV⟩
     have ft:(q=[] \/ ¬ (o.length<11/\eP o+((ib (q.getD 0 default)).length:Int)<=352))->o=fu/\q=tq:=fun h=>by
      cases q with
      | nil=>unfold jo at aV;cases aV;exact⟨rfl,rfl⟩
      | cons f eU=>
       have h:¬ (o.length<11/\eP o+((ib f).length:Int)<=352):=h.resolve_left (by simp)
       unfold jo at aV
       rw[if_neg h] at aV
       cases aV;exact⟨rfl,rfl⟩
     cases q with
     | nil=>
      obtain ⟨aH,aN⟩:=ft (.inl rfl)
      subst aH aN
      clear hT ft aV
      have sU:(([]:List bc).length:Int)=0:=rfl
      (repeat' first|(refine l6 (l5) (h:=?_))|(refine l7 (l5) (h:=?_))|(refine ab ?_;((repeat' first|exact True.intro|refine R.mk ?_ ?_);all_goals intros))|fail "")
      all_goals first
       | (refine ⟨(),?_,?_⟩;rotate_left 1;(exact ax);(exact jt))
       | (exfalso;omega)
       | skip
     | cons f eU=>
      have nS:=zu [f] (fun g aj=>by rw[List.mem_singleton] at aj;exact aj ▸ (hq f List.mem_cons_self).1) (fun g aj=>by rw[List.mem_singleton] at aj;exact aj ▸ (hq f List.mem_cons_self).2) (by simp)
      rw[Pp] at nS
      have wx:=sH (hq f List.mem_cons_self).2
      have hT:=hT (by simp)
      have ft:=fun h=>ft (.inr h)
      rw[show(f :: eU).getD 0 default=f from rfl] at hT ft
      have hf:=hq f List.mem_cons_self
      have Io:iG eU:=fun g aj=>hq g (List.mem_cons_of_mem _ aj)
      rw[List.length_cons] at DJ
      have hlen:(f :: eU).length=eU.length+1:=rfl
      generalize (ib f).length=oB at *
      generalize eP o=z at *
      by_cases hc:o.length<11/\z+(oB:Int)<=352
      ·obtain ⟨f2,a1,e,Im⟩:=hT hc
       cases e
       clear hT ft aV
       (repeat' first|(refine l6 (l5) (h:=?_))|(refine l7 (l5) (h:=?_))|(refine ar (nS) (h:=?_))|(refine au (nS) (h:=?_))|(refine p5 (r:=[f]) (0) (1) ?_ ?_ ?_ ?_ ?_ (h:=?_);(exact cw);(exact cw);(focus omega);(focus omega);(exact e4))|(refine rb (r:=[f]) (0) (1) ?_ ?_ ?_ ?_ ?_ (h:=?_);(exact cw);(exact cw);(focus omega);(focus omega);(exact e4))|(refine rc (r:=[f]) (0) (1) ?_ ?_ ?_ ?_ ?_ (h:=?_);(exact cw);(exact cw);(focus omega);(focus omega);(exact e4))|(refine re (r:=[f]) (0) (1) ?_ ?_ ?_ ?_ ?_ (h:=?_);(exact cw);(exact cw);(focus omega);(focus omega);(exact e4))|(refine rf (r:=[f]) (0) (1) ?_ ?_ ?_ ?_ ?_ (h:=?_);(exact cw);(exact cw);(focus omega);(focus omega);(exact e4))|(refine rh (r:=[f]) (0) (1) ?_ ?_ ?_ ?_ ?_ (h:=?_);(exact cw);(exact cw);(focus omega);(focus omega);(exact e4))|(refine p5 (r:=eU) (1) (eU.length+1) ?_ ?_ ?_ ?_ ?_ (h:=?_);(exact cw);(exact cw);(focus omega);(focus omega);(exact e4))|(refine rb (r:=eU) (1) (eU.length+1) ?_ ?_ ?_ ?_ ?_ (h:=?_);(exact cw);(exact cw);(focus omega);(focus omega);(exact e4))|(refine rc (r:=eU) (1) (eU.length+1) ?_ ?_ ?_ ?_ ?_ (h:=?_);(exact cw);(exact cw);(focus omega);(focus omega);(exact e4))|(refine re (r:=eU) (1) (eU.length+1) ?_ ?_ ?_ ?_ ?_ (h:=?_);(exact cw);(exact cw);(focus omega);(focus omega);(exact e4))|(refine rf (r:=eU) (1) (eU.length+1) ?_ ?_ ?_ ?_ ?_ (h:=?_);(exact cw);(exact cw);(focus omega);(focus omega);(exact e4))|(refine rh (r:=eU) (1) (eU.length+1) ?_ ?_ ?_ ?_ ?_ (h:=?_);(exact cw);(exact cw);(focus omega);(focus omega);(exact e4))|(refine cx (r:=(o++[f]).map aW) ?_ ?_ ?_ ?_ (h:=?_);(exact hU);(exact al);(exact an);(exact ao))|(refine cD (r:=(o++[f]).map aW) ?_ ?_ ?_ ?_ (h:=?_);(exact hU);(exact al);(exact an);(exact ao))|(refine cE (r:=(o++[f]).map aW) ?_ ?_ ?_ ?_ (h:=?_);(exact hU);(exact al);(exact an);(exact ao))|(refine cF (r:=(o++[f]).map aW) ?_ ?_ ?_ ?_ (h:=?_);(exact hU);(exact al);(exact an);(exact ao))|(refine ab ?_;((repeat' first|exact True.intro|refine R.mk ?_ ?_);all_goals intros))|fail "")
       all_goals first
        | (refine ⟨(o++[f],eU),?_,?_,?_⟩;rotate_left 2;(exact ax);(focus (dsimp only;rw[List.length_cons];omega));(exact Il))
        | (exfalso;omega)
        | (exfalso;simp only[List.length_map] at *;omega)
        | skip
      ·obtain ⟨aH,aN⟩:=ft hc
       subst aH aN
       clear hT ft aV
       (repeat' first|(refine l6 (l5) (h:=?_))|(refine l7 (l5) (h:=?_))|(refine ar (nS) (h:=?_))|(refine au (nS) (h:=?_))|(refine p5 (r:=[f]) (0) (1) ?_ ?_ ?_ ?_ ?_ (h:=?_);(exact cw);(exact cw);(focus omega);(focus omega);(exact e4))|(refine rb (r:=[f]) (0) (1) ?_ ?_ ?_ ?_ ?_ (h:=?_);(exact cw);(exact cw);(focus omega);(focus omega);(exact e4))|(refine rc (r:=[f]) (0) (1) ?_ ?_ ?_ ?_ ?_ (h:=?_);(exact cw);(exact cw);(focus omega);(focus omega);(exact e4))|(refine re (r:=[f]) (0) (1) ?_ ?_ ?_ ?_ ?_ (h:=?_);(exact cw);(exact cw);(focus omega);(focus omega);(exact e4))|(refine rf (r:=[f]) (0) (1) ?_ ?_ ?_ ?_ ?_ (h:=?_);(exact cw);(exact cw);(focus omega);(focus omega);(exact e4))|(refine rh (r:=[f]) (0) (1) ?_ ?_ ?_ ?_ ?_ (h:=?_);(exact cw);(exact cw);(focus omega);(focus omega);(exact e4))|(refine ab ?_;((repeat' first|exact True.intro|refine R.mk ?_ ?_);all_goals intros))|fail "")
       all_goals first
        | (refine ⟨(),?_,?_⟩;rotate_left 1;(exact ax);(exact jt))
        | (exfalso;omega)
        | (exfalso;simp only[List.length_map] at *;omega)
        | skip
    rintro ⟨⟩ -
    clear rB
    have uC:=Qo ⟨aA,space,bp,bU,credit,ids,cH,opened,bE,b3,queue,last,cL,false,code⟩ tq fu mf uA jC qj (by omega) _ rfl
    unfold gp oH at uC
    unfold h4 at jC
    dsimp only at uC
    have DK:=wy (cr:=credit.Max) mf bE.length 0 (bE,credit.cm,fu) (by omega) rfl (fun y ai=>W.q2 y (mf y ai).1) uA qj uA
    generalize jF credit.Max bE bE.length 0 (bE,credit.cm,fu)=DL at *
    obtain ⟨pl,pu,ik⟩:=DL
    obtain ⟨g1,g2,g3,g4,g5⟩:=DK
    dsimp only at *
    have hS:=zu ik (fun f hf=>(g4 f hf).1) (fun f hf=>(g4 f hf).2) (by omega)
    have fS:=Pm bp (eP ik)
    have lM:=Qp space now (eP ik) ik lK (by omega) (fun f hf=>(g4 f hf).1)
    have DM:=Aj ik (fun f hf=>(g4 f hf).1) (by omega)
    have IQ:=Aj A (fun f hf=>(n3.1 f hf).1) (by omega)
    have lN:=IE space lK
    have kb:=IR bp (eP ik) nj
    have IS:=Qq space now (eP ik) ik lK (by omega) (fun f hf=>(g4 f hf).1)
    generalize o9 bp (eP ik)=sQ at *
    generalize kC space now (eP ik) ik=DN at *
    obtain ⟨c7,may,sM⟩:=sQ
    obtain ⟨s2,num,wz⟩:=DN
    dsimp only at *
    have wA:=qX _ (Ql (pl:=pl) (pu:=pu) (tq:=tq) (p:=c7) (s:=s2) hw (by omega) g2 uA (by omega) (fun f hf=>(sT f hf).1) kb IS)
    have lG:=fun oD (av:eF oD)=>qX _ (Qk (s:=oD) hw av)
    have Qr:=DG space lK
    unfold pg oH gp at wA
    unfold IH gp at lG
    unfold um at fS
    clear ch hw lK nj mf ph n3 g2 g4 qj sT yS si kb IS
    dsimp only at *
    (repeat' first|(refine eL [3,4,5] (uC) (h:=?_))|(refine eM [3,4,5] (uC) (h:=?_))|(refine gU [3,4,5] (uC) (h:=?_))|(refine hB 19 ?_;((repeat' first|exact True.intro|refine R.mk ?_ ?_);all_goals intros))|fail "")
    refine lZ (bG:=⟨[(1,.lit (.int .i64 now)),(4,.ptr 1 0 0 0),(9,.ptr 2 0 0 0),(10,.ro (A.map aW)),(13,.ptr 3 0 0 0),(14,.ro (ik.map aW))],[(1,some (.box 51 [.lit (.bool false),.lit (.int .i64 0),.lit (.slice none 0 0),.lit (.int .i64 0),.lit (.slice none 0 0),.lit (.slice none 0 0),.lit (.int .i64 0),.lit (.int .i64 0),.lit (.int .i64 0),.lit (.int .i64 0),.lit (.int .i64 0),.lit (.int .i64 0),.lit (.int .i64 0),.lit (.int .i64 0),.lit (.int .i64 0),.lit (.int .i64 0),.lit (.int .i64 0),.lit (.slice none 0 0),.lit (.bool false),.lit (.slice none 0 0),.lit (.int .i64 0),.lit (.int .i64 0),.lit (.bool false),.lit (.int .i64 0)])),(2,some (.box 116 [.lit (.bool aA),.lit (.int .i64 space.Next),.ro (space.az.map bY),.lit (.int .i64 space.dn),.ro (space.cg.map aD),.ro (space.b7.map encI),.lit (.int .i64 bp.cK),.lit (.int .i64 bp.eE),.lit (.int .i64 bp.dW),.lit (.int .i64 bp.Since),.lit (.int .i64 bU.Max),.lit (.int .i64 bU.cm),.lit (.int .i64 credit.Max),.lit (.int .i64 credit.cm),.lit (.int .i64 ids),.lit (.int .i64 cH),.lit (.int .i64 opened),.ro (bE.map cv),.lit (.bool b3),.ro (queue.map aW),.lit (.int .i64 last),.lit (.int .i64 cL),.lit (.bool false),.lit (.int .i64 code)])),(3,some (.box 116 [.lit (.bool aA),.lit (.int .i64 space.Next),.ro (space.az.map bY),.lit (.int .i64 space.dn),.ro (space.cg.map aD),.ro (space.b7.map encI),.lit (.int .i64 bp.cK),.lit (.int .i64 bp.eE),.lit (.int .i64 bp.dW),.lit (.int .i64 bp.Since),.lit (.int .i64 bU.Max),.lit (.int .i64 bU.cm),.lit (.int .i64 credit.Max),.lit (.int .i64 pu),.lit (.int .i64 ids),.lit (.int .i64 cH),.lit (.int .i64 opened),.ro (pl.map cv),.lit (.bool b3),.ro (tq.map aW),.lit (.int .i64 last),.lit (.int .i64 cL),.lit (.bool false),.lit (.int .i64 code)]))],4,Tryz.f101.ntmps⟩) gf ?_
    clear uC
    refine fG (fun _:Unit=>⟨[(4,.ptr 1 0 0 0),(9,.ptr 2 0 0 0),(10,.ro (A.map aW))],[(1,some (.box 51 [.lit (.bool false),.lit (.int .i64 0),.lit (.slice none 0 0),.lit (.int .i64 0),.lit (.slice none 0 0),.lit (.slice none 0 0),.lit (.int .i64 0),.lit (.int .i64 0),.lit (.int .i64 0),.lit (.int .i64 0),.lit (.int .i64 0),.lit (.int .i64 0),.lit (.int .i64 0),.lit (.int .i64 0),.lit (.int .i64 0),.lit (.int .i64 0),.lit (.int .i64 0),.lit (.slice none 0 0),.lit (.bool false),.lit (.slice none 0 0),.lit (.int .i64 0),.lit (.int .i64 0),.lit (.bool false),.lit (.int .i64 0)])),(2,some (.box 116 [.lit (.bool aA),.lit (.int .i64 space.Next),.ro (space.az.map bY),.lit (.int .i64 space.dn),.ro (space.cg.map aD),.ro (space.b7.map encI),.lit (.int .i64 bp.cK),.lit (.int .i64 bp.eE),.lit (.int .i64 bp.dW),.lit (.int .i64 bp.Since),.lit (.int .i64 bU.Max),.lit (.int .i64 bU.cm),.lit (.int .i64 credit.Max),.lit (.int .i64 credit.cm),.lit (.int .i64 ids),.lit (.int .i64 cH),.lit (.int .i64 opened),.ro (bE.map cv),.lit (.bool b3),.ro (queue.map aW),.lit (.int .i64 last),.lit (.int .i64 cL),.lit (.bool false),.lit (.int .i64 code)]))],3,Tryz.f101.ntmps⟩) (fun _=>¬ (A.length<ik.length/\may=true/\wz=0)) ?_ ?_
    ·by_cases cj:A.length<ik.length
     ·by_cases rC:wz=0
      ·subst rC
       cases may
       ·(repeat' first|(refine ar (hS) (h:=?_))|(refine au (hS) (h:=?_))|(refine ar (fS) (h:=?_))|(refine au (fS) (h:=?_))|(refine ar (lM) (h:=?_))|(refine au (lM) (h:=?_))|(refine ab ?_;((repeat' first|exact True.intro|refine R.mk ?_ ?_);all_goals intros))|fail "")
        all_goals first
         | (refine ⟨(),?_,?_⟩;rotate_left 1;(exact ax);(focus (exact fun h=>by cases h.2.1)))
         | (exfalso;simp only[List.length_map] at *;omega)
         | skip
       ·rw[if_pos ⟨cj,rfl,rfl⟩]
        unfold pg oH kV
        dsimp only
        (repeat' first|(refine ar (hS) (h:=?_))|(refine au (hS) (h:=?_))|(refine ar (fS) (h:=?_))|(refine au (fS) (h:=?_))|(refine ar (lM) (h:=?_))|(refine au (lM) (h:=?_))|(refine ar (DM) (h:=?_))|(refine au (DM) (h:=?_))|(refine eL [] (wA) (h:=?_))|(refine eM [] (wA) (h:=?_))|(refine kc (wA) (h:=?_))|(refine ab ?_;((repeat' first|exact True.intro|refine R.mk ?_ ?_);all_goals intros))|fail "")
        all_goals (try dsimp only at *)
        all_goals first
         | (exact bD)
         | (exfalso;simp only[List.length_map] at *;omega)
         | skip
      ·cases may
       all_goals
        (repeat' first|(refine ar (hS) (h:=?_))|(refine au (hS) (h:=?_))|(refine ar (fS) (h:=?_))|(refine au (fS) (h:=?_))|(refine ar (lM) (h:=?_))|(refine au (lM) (h:=?_))|(refine ab ?_;((repeat' first|exact True.intro|refine R.mk ?_ ?_);all_goals intros))|fail "")
        all_goals first
         | (refine ⟨(),?_,?_⟩;rotate_left 1;(exact ax);(focus (exact fun h=>rC h.2.2)))
         | (exfalso;simp only[List.length_map] at *;omega)
         | skip
     ·(repeat' first|(refine ab ?_;((repeat' first|exact True.intro|refine R.mk ?_ ?_);all_goals intros))|fail "")
      all_goals first
       | (refine ⟨(),?_,?_⟩;rotate_left 1;(exact ax);(focus (exact fun h=>cj h.1)))
       | (exfalso;simp only[List.length_map] at *;omega)
       | skip
    rintro ⟨⟩ sV
    (try dsimp only at sV)
    rw[if_neg sV]
    clear sV wA lM fS hS DM
    unfold nA kV
    (try dsimp only)
    by_cases IT:A.length=0
    ·rw[if_pos IT]
     (repeat' first|(refine ab ?_;((repeat' first|exact True.intro|refine R.mk ?_ ?_);all_goals intros))|fail "")
     all_goals (try dsimp only at *)
     all_goals first
      | (exact bD)
      | (exfalso;simp only[List.length_map] at *;omega)
      | skip
    ·rw[if_neg IT]
     generalize jE space=Qs at *
     obtain ⟨oD,W3,bS⟩:=Qs
     have lG:=lG oD Qr
     dsimp only at *
     by_cases IU:bS=0
     ·subst IU
      rw[if_pos rfl,if_neg Bool.false_ne_true]
      (repeat' first|(refine ar (lN) (h:=?_))|(refine au (lN) (h:=?_))|(refine ar (IQ) (h:=?_))|(refine au (IQ) (h:=?_))|(refine eL [] (lG) (h:=?_))|(refine eM [] (lG) (h:=?_))|(refine kc (lG) (h:=?_))|(refine ab ?_;((repeat' first|exact True.intro|refine R.mk ?_ ?_);all_goals intros))|fail "")
      all_goals (try dsimp only at *)
      all_goals first
       | (exact bD)
       | (exfalso;simp only[List.length_map] at *;omega)
       | skip
     ·rw[if_neg IU]
      (repeat' first|(refine ar (lN) (h:=?_))|(refine au (lN) (h:=?_))|(refine ab ?_;((repeat' first|exact True.intro|refine R.mk ?_ ?_);all_goals intros))|fail "")
      all_goals (try dsimp only at *)
      all_goals first
       | (exact bD)
       | (exfalso;simp only[List.length_map] at *;omega)
       | skip
   ·rw[if_pos rfl]
    have dx:=Qj _ hw rfl
    clear hu hw bu
    unfold gp at ch
    unfold kV at *
    generalize nA _ _=cN at *
    obtain ⟨IV,IW,IX,IY⟩:=cN
    dsimp only at *
    refine aU ae Tryz.func101 rfl ae ?_
    (repeat' first|(refine ar (I) (h:=?_))|(refine au (I) (h:=?_))|(refine eL [] (ch) (h:=?_))|(refine eM [] (ch) (h:=?_))|(refine kc (ch) (h:=?_))|(refine hB 7 ?_;((repeat' first|exact True.intro|refine R.mk ?_ ?_);all_goals intros))|fail "")
    refine lZ (bG:=⟨[(4,.ptr 1 0 0 0),(9,.ptr 2 0 0 0)],[(1,some (.box 51 [.lit (.bool false),.lit (.int .i64 0),.lit (.slice none 0 0),.lit (.int .i64 0),.lit (.slice none 0 0),.lit (.slice none 0 0),.lit (.int .i64 0),.lit (.int .i64 0),.lit (.int .i64 0),.lit (.int .i64 0),.lit (.int .i64 0),.lit (.int .i64 0),.lit (.int .i64 0),.lit (.int .i64 0),.lit (.int .i64 0),.lit (.int .i64 0),.lit (.int .i64 0),.lit (.slice none 0 0),.lit (.bool false),.lit (.slice none 0 0),.lit (.int .i64 0),.lit (.int .i64 0),.lit (.bool false),.lit (.int .i64 0)])),(2,some (.box 116 [.lit (.bool aA),.lit (.int .i64 space.Next),.ro (space.az.map bY),.lit (.int .i64 space.dn),.ro (space.cg.map aD),.ro (space.b7.map encI),.lit (.int .i64 bp.cK),.lit (.int .i64 bp.eE),.lit (.int .i64 bp.dW),.lit (.int .i64 bp.Since),.lit (.int .i64 bU.Max),.lit (.int .i64 bU.cm),.lit (.int .i64 credit.Max),.lit (.int .i64 credit.cm),.lit (.int .i64 ids),.lit (.int .i64 cH),.lit (.int .i64 opened),.ro (bE.map cv),.lit (.bool b3),.ro (queue.map aW),.lit (.int .i64 last),.lit (.int .i64 cL),.lit (.bool true),.lit (.int .i64 code)]))],3,Tryz.f101.ntmps⟩) gf ?_
    (repeat' first|(refine eL [2] (dx) (h:=?_))|(refine eM [2] (dx) (h:=?_))|(refine gU [2] (dx) (h:=?_))|(refine ab ?_;((repeat' first|exact True.intro|refine R.mk ?_ ?_);all_goals intros))|fail "")
    all_goals (try dsimp only at *)
    all_goals first
     | (exact bD)
     | (exfalso;omega)
     | skip
  ·rw[if_neg hH]
   unfold kV
   clear hu hw bu
   refine aU ae Tryz.func101 rfl ae ?_
   (repeat' first|(refine ar (I) (h:=?_))|(refine au (I) (h:=?_))|(refine ab ?_;((repeat' first|exact True.intro|refine R.mk ?_ ?_);all_goals intros))|fail "")
   all_goals (try dsimp only at *)
   all_goals first
    | (exact bD)
    | (exfalso;omega)
    | skip
 ·rw[af] at I ⊢
  rw[if_neg (by decide)]
  unfold kV
  clear hu hw bu
  refine aU ae Tryz.func101 rfl ae ?_
  (repeat' first|(refine ar (I) (h:=?_))|(refine au (I) (h:=?_))|(refine ab ?_;((repeat' first|exact True.intro|refine R.mk ?_ ?_);all_goals intros))|fail "")
  all_goals first
   | (exact bD)
   | skip
end Go.Proofs.YtendheafcbickaaGreat
