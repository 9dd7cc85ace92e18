
import Derived.Test.YtendheafcbickaaGreatTZip
import Derived.Test.YtendheafcbickaaGreatTGo
import Derived.Test.YtendheafcbickaaGreatTFlB
set_option linter.unusedVariables false
set_option linter.unusedSimpArgs false
set_option maxHeartbeats 16000000
namespace Go.Proofs.YtendheafcbickaaGreat
set_option maxRecDepth 100000
attribute [local irreducible] cq a8 bw GStep Fn cu bk cU
theorem My (c:a6) (l:List bc) (hw:eF c.bf) (aq:l.length<=1000000):Fn Tryz.prog 218 [.agg (e2 c),.ro (l.map aW)] (kV (nA c l)):=by
 have I:=Up c.bf hw
 clear hw
 unfold nA kV
 generalize jE c.bf=Q at *
 obtain ⟨s,n,e⟩:=Q
 obtain ⟨aA,space,bp,bU,credit,ids,cH,opened,bE,b3,queue,last,cL,dw,code⟩:=c
 dsimp only at *
 by_cases hq:l.length=0
 ·rw[if_pos hq]
  refine aU ae Tryz.func218 rfl ae ?_
  (repeat' first|(refine ab ?_;((repeat' first|exact True.intro|refine R.mk ?_ ?_);all_goals intros))|fail "")
  all_goals (try dsimp only at *)
  all_goals first
   | (exact bD)
   | (exfalso;simp only[List.length_map] at *;omega)
   | skip
 ·rw[if_neg hq]
  by_cases he:e=0
  ·subst he
   rw[if_pos rfl]
   cases dw
   all_goals
    refine aU ae Tryz.func218 rfl ae ?_
    (repeat' first|(refine ar (I) (h:=?_))|(refine au (I) (h:=?_))|(refine ab ?_;((repeat' first|exact True.intro|refine R.mk ?_ ?_);all_goals intros))|fail "")
    all_goals (try dsimp only at *)
    all_goals first
     | (exact bD)
     | (exfalso;simp only[List.length_map] at *;omega)
     | skip
  ·rw[if_neg he]
   refine aU ae Tryz.func218 rfl ae ?_
   (repeat' first|(refine ar (I) (h:=?_))|(refine au (I) (h:=?_))|(refine ab ?_;((repeat' first|exact True.intro|refine R.mk ?_ ?_);all_goals intros))|fail "")
   all_goals (try dsimp only at *)
   all_goals first
    | (exact bD)
    | (exfalso;simp only[List.length_map] at *;omega)
    | skip
theorem P1 (c:a6) (now:Int) (hu:W.ej c):Fn Tryz.prog 108 [.agg (e2 c),.lit (.int .i64 now)] (kV (iE c now)):=by
 have hw:=W.pT c hu
 have I:=DF c hu
 unfold iE
 rcases tZ c with⟨af,bu⟩ | ⟨af,bu⟩
 ·rw[af] at I ⊢
  rw[if_pos rfl]
  by_cases hH:0<=now/\now<=1099511627776
  ·rw[if_pos hH]
   have fY:=bu.1.1.1
   have Mz:c.Queue.length<=12:=by have:=fY.2;unfold iR at this;omega
   obtain ⟨aA,space,bp,bU,credit,ids,cH,opened,bE,b3,queue,last,cL,dw,code⟩:=c
   cases dw
   ·rw[if_neg Bool.false_ne_true]
    have tM:=Rm space.cg hw.1.2.2.2.2.1
    have lK:=hw.1
    have nj:=hw.2.1
    have si:=hw.2.2.2.2.2.2.2.2.2.2.1
    have ph:iG queue:=fun f hf=>⟨si f hf,(sS (Q:=fun x=>eu x=0)).1 bu.1.2 f hf⟩
    have mf:∀ y,y ∈ bE->W.gM y/\0<=y.Id/\y.Id<=4611686018427387903:=fun y ai=>⟨hu.2.2.2.2.2.2.2.2.1 y ai,by
     obtain ⟨i,hi,rfl⟩:=List.getElem_of_mem ai
     have pj:=bu.1.1.2
     have fZ:=fY.2
     unfold iR at fZ
     dsimp only at pj fZ hi
     have I:=(DH pj i hi)
     have J:=(pj i hi).2.1
     dsimp only at I J
     rw[List.getD_eq_getElem?_getD,List.getElem?_eq_getElem hi] at I J
     dsimp only[Option.getD_some] at I J
     omega⟩
    have kB:hZ space=0:=fY.1.1
    have jC:h4 credit:=by have h:=fY.1.2.2.2;dsimp only at h;unfold o0 at h;split at h;(assumption);(cases h)
    have fW:bE.length<=4:=by have:=fY.2;unfold iR at this;dsimp only at this;omega
    have sj:queue.length<=12:=Mz
    obtain ⟨A,b1⟩:∃ A,A=lL ⟨aA,space,bp,bU,credit,ids,cH,opened,bE,b3,queue,last,cL,false,code⟩:=⟨_,rfl⟩
    have oI:=(II kB).1.1
    unfold gN at oI
    have n3:iG A/\A.length<=1:=by
     subst b1
     unfold lL
     split
     ·rename_i h
      have:=DI (l:=space.cg) lK.2.2.2.2.2.1 oI.2.2.2.2.2.1 h.2 oI.2.2.2.2.2.2.1
      exact⟨fun f hf=>by rw[List.mem_singleton] at hf;exact hf ▸ this,by simp⟩
     ·exact⟨(fun f hf=>by cases hf),by simp⟩
    have BJ:=My ⟨aA,space,bp,bU,credit,ids,cH,opened,bE,b3,queue,last,cL,false,code⟩ A lK (by omega)
    unfold Ak mg
    rw[<- b1]
    clear bu fY hu hw
    dsimp only at *
    generalize fA:e2 ⟨aA,space,bp,bU,credit,ids,cH,opened,bE,b3,queue,last,cL,false,code⟩=Z at I BJ ⊢
    unfold e2 at fA
    dsimp only at fA
    subst fA
    refine aU ae Tryz.func108 rfl ae ?_
    (repeat' first|(refine ar (I) (h:=?_))|(refine au (I) (h:=?_))|(refine dM (cB _ _) (ht:=?_) (hff:=?_) <;> intro _ <;> try (exfalso;omega))|(refine dN (cB _ _) (ht:=?_) (hff:=?_) <;> intro _ <;> try (exfalso;omega))|(refine hB 9 ?_;((repeat' first|exact True.intro|refine R.mk ?_ ?_);all_goals intros))|fail "")
    all_goals (try (exfalso;omega))
    refine fG (fun _:Unit=>⟨[(1,.lit (.int .i64 now)),(2,.ptr 0 0 0 0),(4,.ptr 1 0 0 0),(9,.ro (A.map aW))],[(0,some (.box 51 [.lit (.bool aA),.lit (.int .i64 space.Next),.ro (space.az.map bY),.lit (.int .i64 space.dn),.ro (space.cg.map aD),.ro (space.b7.map encI),.lit (.int .i64 bp.cK),.lit (.int .i64 bp.eE),.lit (.int .i64 bp.dW),.lit (.int .i64 bp.Since),.lit (.int .i64 bU.Max),.lit (.int .i64 bU.cm),.lit (.int .i64 credit.Max),.lit (.int .i64 credit.cm),.lit (.int .i64 ids),.lit (.int .i64 cH),.lit (.int .i64 opened),.ro (bE.map cv),.lit (.bool b3),.ro (queue.map aW),.lit (.int .i64 last),.lit (.int .i64 cL),.lit (.bool false),.lit (.int .i64 code)])),(1,some (.box 51 [.lit (.bool false),.lit (.int .i64 0),.lit (.slice none 0 0),.lit (.int .i64 0),.lit (.slice none 0 0),.lit (.slice none 0 0),.lit (.int .i64 0),.lit (.int .i64 0),.lit (.int .i64 0),.lit (.int .i64 0),.lit (.int .i64 0),.lit (.int .i64 0),.lit (.int .i64 0),.lit (.int .i64 0),.lit (.int .i64 0),.lit (.int .i64 0),.lit (.int .i64 0),.lit (.slice none 0 0),.lit (.bool false),.lit (.slice none 0 0),.lit (.int .i64 0),.lit (.int .i64 0),.lit (.bool false),.lit (.int .i64 0)]))],2,Tryz.f108.ntmps⟩) (fun _=>True) ?_ ?_
    ·unfold lL at b1
     dsimp only at b1
     by_cases bj:b3=true/\0<space.cg.length
     ·rw[if_pos bj] at b1
      subst b1
      obtain ⟨hb,hh⟩:=bj
      subst hb
      (repeat' first|(refine ar (tM) (h:=?_))|(refine au (tM) (h:=?_))|(refine ab ?_;((repeat' first|exact True.intro|refine R.mk ?_ ?_);all_goals intros))|fail "")
      all_goals first
       | (refine ⟨(),trivial,?_⟩;refine (y4 9 (l:=[sR space.cg]) (fl:=[rA space.cg].map aW) rfl rfl (IG _) (IF _)).trans ?_;(exact ax))
       | (exfalso;simp only[List.length_map] at *;omega)
       | skip
     ·rw[if_neg bj] at b1
      subst b1
      cases b3
      ·(repeat' first|(refine ar (tM) (h:=?_))|(refine au (tM) (h:=?_))|(refine ab ?_;((repeat' first|exact True.intro|refine R.mk ?_ ?_);all_goals intros))|fail "")
       all_goals first
        | (refine ⟨(),trivial,?_⟩;refine (Al 9 rfl).trans ?_;(exact ax))
        | (exfalso;omega)
        | skip
      ·have bj:¬ 0<space.cg.length:=fun h=>bj ⟨rfl,h⟩
       (repeat' first|(refine ar (tM) (h:=?_))|(refine au (tM) (h:=?_))|(refine ab ?_;((repeat' first|exact True.intro|refine R.mk ?_ ?_);all_goals intros))|fail "")
       all_goals first
        | (refine ⟨(),trivial,?_⟩;refine (Al 9 rfl).trans ?_;(exact ax))
        | (exfalso;simp only[List.length_map] at *;omega)
        | skip
    rintro ⟨⟩ -
    clear tM b1 I
    obtain ⟨qj,sT,IL,IM,IP⟩:=Am queue A ph n3.1 (by omega)
    generalize aV:jo queue A=T at *
    obtain ⟨fu,tq⟩:=T
    dsimp only at *
    (repeat' first|(refine cx (r:=A.map aW) ?_ ?_ ?_ ?_ (h:=?_);(exact aM);(exact al);(exact an);(exact ao))|(refine cD (r:=A.map aW) ?_ ?_ ?_ ?_ (h:=?_);(exact aM);(exact al);(exact an);(exact ao))|(refine cE (r:=A.map aW) ?_ ?_ ?_ ?_ (h:=?_);(exact aM);(exact al);(exact an);(exact ao))|(refine cF (r:=A.map aW) ?_ ?_ ?_ ?_ (h:=?_);(exact aM);(exact al);(exact an);(exact ao))|(refine hB 12 ?_;((repeat' first|exact True.intro|refine R.mk ?_ ?_);all_goals intros))|fail "")
    refine fG (fun _:Unit=>⟨[(1,.lit (.int .i64 now)),(2,.ptr 0 0 0 0),(4,.ptr 1 0 0 0),(9,.ro (A.map aW)),(10,.ptr 2 0 0 0),(11,.own 3)],[(0,some (.box 51 [.lit (.bool aA),.lit (.int .i64 space.Next),.ro (space.az.map bY),.lit (.int .i64 space.dn),.ro (space.cg.map aD),.ro (space.b7.map encI),.lit (.int .i64 bp.cK),.lit (.int .i64 bp.eE),.lit (.int .i64 bp.dW),.lit (.int .i64 bp.Since),.lit (.int .i64 bU.Max),.lit (.int .i64 bU.cm),.lit (.int .i64 credit.Max),.lit (.int .i64 credit.cm),.lit (.int .i64 ids),.lit (.int .i64 cH),.lit (.int .i64 opened),.ro (bE.map cv),.lit (.bool b3),.ro (queue.map aW),.lit (.int .i64 last),.lit (.int .i64 cL),.lit (.bool false),.lit (.int .i64 code)])),(1,some (.box 51 [.lit (.bool false),.lit (.int .i64 0),.lit (.slice none 0 0),.lit (.int .i64 0),.lit (.slice none 0 0),.lit (.slice none 0 0),.lit (.int .i64 0),.lit (.int .i64 0),.lit (.int .i64 0),.lit (.int .i64 0),.lit (.int .i64 0),.lit (.int .i64 0),.lit (.int .i64 0),.lit (.int .i64 0),.lit (.int .i64 0),.lit (.int .i64 0),.lit (.int .i64 0),.lit (.slice none 0 0),.lit (.bool false),.lit (.slice none 0 0),.lit (.int .i64 0),.lit (.int .i64 0),.lit (.bool false),.lit (.int .i64 0)])),(2,some (.box 51 [.lit (.bool aA),.lit (.int .i64 space.Next),.ro (space.az.map bY),.lit (.int .i64 space.dn),.ro (space.cg.map aD),.ro (space.b7.map encI),.lit (.int .i64 bp.cK),.lit (.int .i64 bp.eE),.lit (.int .i64 bp.dW),.lit (.int .i64 bp.Since),.lit (.int .i64 bU.Max),.lit (.int .i64 bU.cm),.lit (.int .i64 credit.Max),.lit (.int .i64 credit.cm),.lit (.int .i64 ids),.lit (.int .i64 cH),.lit (.int .i64 opened),.ro (bE.map cv),.lit (.bool b3),.ro (tq.map aW),.lit (.int .i64 last),.lit (.int .i64 cL),.lit (.bool false),.lit (.int .i64 code)])),(3,some (.row 111 7 (fu.map aW)))],4,Tryz.f108.ntmps⟩) (fun _=>True) ?_ ?_
    ·refine uB ?_
     refine b2 (fun x:List bc×List bc=>⟨[(1,.lit (.int .i64 now)),(2,.ptr 0 0 0 0),(4,.ptr 1 0 0 0),(9,.ro (A.map aW)),(10,.ptr 2 0 0 0),(11,.own 3)],[(0,some (.box 51 [.lit (.bool aA),.lit (.int .i64 space.Next),.ro (space.az.map bY),.lit (.int .i64 space.dn),.ro (space.cg.map aD),.ro (space.b7.map encI),.lit (.int .i64 bp.cK),.lit (.int .i64 bp.eE),.lit (.int .i64 bp.dW),.lit (.int .i64 bp.Since),.lit (.int .i64 bU.Max),.lit (.int .i64 bU.cm),.lit (.int .i64 credit.Max),.lit (.int .i64 credit.cm),.lit (.int .i64 ids),.lit (.int .i64 cH),.lit (.int .i64 opened),.ro (bE.map cv),.lit (.bool b3),.ro (queue.map aW),.lit (.int .i64 last),.lit (.int .i64 cL),.lit (.bool false),.lit (.int .i64 code)])),(1,some (.box 51 [.lit (.bool false),.lit (.int .i64 0),.lit (.slice none 0 0),.lit (.int .i64 0),.lit (.slice none 0 0),.lit (.slice none 0 0),.lit (.int .i64 0),.lit (.int .i64 0),.lit (.int .i64 0),.lit (.int .i64 0),.lit (.int .i64 0),.lit (.int .i64 0),.lit (.int .i64 0),.lit (.int .i64 0),.lit (.int .i64 0),.lit (.int .i64 0),.lit (.int .i64 0),.lit (.slice none 0 0),.lit (.bool false),.lit (.slice none 0 0),.lit (.int .i64 0),.lit (.int .i64 0),.lit (.bool false),.lit (.int .i64 0)])),(2,some (.box 51 [.lit (.bool aA),.lit (.int .i64 space.Next),.ro (space.az.map bY),.lit (.int .i64 space.dn),.ro (space.cg.map aD),.ro (space.b7.map encI),.lit (.int .i64 bp.cK),.lit (.int .i64 bp.eE),.lit (.int .i64 bp.dW),.lit (.int .i64 bp.Since),.lit (.int .i64 bU.Max),.lit (.int .i64 bU.cm),.lit (.int .i64 credit.Max),.lit (.int .i64 credit.cm),.lit (.int .i64 ids),.lit (.int .i64 cH),.lit (.int .i64 opened),.ro (bE.map cv),.lit (.bool b3),.ro (x.2.map aW),.lit (.int .i64 last),.lit (.int .i64 cL),.lit (.bool false),.lit (.int .i64 code)])),(3,some (.row 111 7 (x.1.map aW)))],4,Tryz.f108.ntmps⟩)
      (fun x=>jo x.2 x.1=(fu,tq)/\iG x.1/\iG x.2/\x.1.length<=11/\x.2.length<=12) (fun x=>x.2.length) (A,queue) ⟨aV,n3.1,ph,by first|omega|(dsimp only;omega),sj⟩ gf ?_
     clear aV
     rintro ⟨o,q⟩ ⟨aV,aa,hq,Qn,DJ⟩
     dsimp only at *
     have l5:=C6 o (fun f hf=>(aa f hf).2) (by omega)
     have bh:=uo (fun f hf=>(aa f hf).2)
     have hT:q≠[]->o.length<11/\eP o+((ib (q.getD 0 default)).length:Int)<=352 -> ∃ f eU,q=f :: eU /\ jo eU (o++[f])=(fu,tq):=fun I J=>by
      cases q with
      | nil=>exact absurd rfl I
      | cons f eU=>
       have J:o.length<11/\eP o+((ib f).length:Int)<=352:=J
       unfold jo at aV
       rw[if_pos J] at aV
       exact⟨f,eU,rfl,aV⟩
     have ft:(q=[] \/ ¬ (o.length<11/\eP o+((ib (q.getD 0 default)).length:Int)<=352))->o=fu/\q=tq:=fun h=>by
      cases q with
      | nil=>unfold jo at aV;cases aV;exact⟨rfl,rfl⟩
      | cons f eU=>
       have h:¬ (o.length<11/\eP o+((ib f).length:Int)<=352):=h.resolve_left (by simp)
       unfold jo at aV
       rw[if_neg h] at aV
       cases aV;exact⟨rfl,rfl⟩
     cases q with
     | nil=>
      obtain ⟨aH,aN⟩:=ft (.inl rfl)
      subst aH aN
      clear hT ft aV
      have sU:(([]:List bc).length:Int)=0:=rfl
      (repeat' first|(refine l6 (l5) (h:=?_))|(refine l7 (l5) (h:=?_))|(refine ab ?_;((repeat' first|exact True.intro|refine R.mk ?_ ?_);all_goals intros))|fail "")
      all_goals first
       | (refine ⟨(),?_,?_⟩;rotate_left 1;(exact ax);(exact jt))
       | (exfalso;omega)
       | (exfalso;simp only[List.length_map] at *;omega)
       | skip
     | cons f eU=>
      have nS:=C7 f (hq f List.mem_cons_self).2
      have wx:=sH (hq f List.mem_cons_self).2
      have hT:=hT (by simp)
      have ft:=fun h=>ft (.inr h)
      rw[show(f :: eU).getD 0 default=f from rfl] at hT ft
      have hf:=hq f List.mem_cons_self
      have Io:iG eU:=fun g aj=>hq g (List.mem_cons_of_mem _ aj)
      rw[List.length_cons] at DJ
      have hlen:(f :: eU).length=eU.length+1:=rfl
      generalize eP o=z at *
      by_cases hc:o.length<11/\z+((ib f).length:Int)<=352
      ·obtain ⟨f2,a1,e,Im⟩:=hT hc
       cases e
       clear hT ft aV
       (repeat' first|(refine l6 (l5) (h:=?_))|(refine l7 (l5) (h:=?_))|(refine ar (nS) (h:=?_))|(refine au (nS) (h:=?_))|(refine p5 (r:=eU) (1) (eU.length+1) ?_ ?_ ?_ ?_ ?_ (h:=?_);(exact cw);(exact cw);(focus omega);(focus omega);(exact e4))|(refine rb (r:=eU) (1) (eU.length+1) ?_ ?_ ?_ ?_ ?_ (h:=?_);(exact cw);(exact cw);(focus omega);(focus omega);(exact e4))|(refine rc (r:=eU) (1) (eU.length+1) ?_ ?_ ?_ ?_ ?_ (h:=?_);(exact cw);(exact cw);(focus omega);(focus omega);(exact e4))|(refine re (r:=eU) (1) (eU.length+1) ?_ ?_ ?_ ?_ ?_ (h:=?_);(exact cw);(exact cw);(focus omega);(focus omega);(exact e4))|(refine rf (r:=eU) (1) (eU.length+1) ?_ ?_ ?_ ?_ ?_ (h:=?_);(exact cw);(exact cw);(focus omega);(focus omega);(exact e4))|(refine rh (r:=eU) (1) (eU.length+1) ?_ ?_ ?_ ?_ ?_ (h:=?_);(exact cw);(exact cw);(focus omega);(focus omega);(exact e4))|(refine cx (r:=(o++[f]).map aW) ?_ ?_ ?_ ?_ (h:=?_);(exact hU);(exact al);(exact an);(exact ao))|(refine cD (r:=(o++[f]).map aW) ?_ ?_ ?_ ?_ (h:=?_);(exact hU);(exact al);(exact an);(exact ao))|(refine cE (r:=(o++[f]).map aW) ?_ ?_ ?_ ?_ (h:=?_);(exact hU);(exact al);(exact an);(exact ao))|(refine cF (r:=(o++[f]).map aW) ?_ ?_ ?_ ?_ (h:=?_);(exact hU);(exact al);(exact an);(exact ao))|(refine ab ?_;((repeat' first|exact True.intro|refine R.mk ?_ ?_);all_goals intros))|fail "")
       all_goals first
        | (refine ⟨(o++[f],eU),?_,?_,?_⟩;rotate_left 2;(exact ax);(focus (dsimp only;rw[List.length_cons];omega));(exact Il))
        | (exfalso;omega)
        | (exfalso;simp only[List.length_map] at *;omega)
        | skip
      ·obtain ⟨aH,aN⟩:=ft hc
       subst aH aN
       clear hT ft aV
       (repeat' first|(refine l6 (l5) (h:=?_))|(refine l7 (l5) (h:=?_))|(refine ar (nS) (h:=?_))|(refine au (nS) (h:=?_))|(refine ab ?_;((repeat' first|exact True.intro|refine R.mk ?_ ?_);all_goals intros))|fail "")
       all_goals first
        | (refine ⟨(),?_,?_⟩;rotate_left 1;(exact ax);(exact jt))
        | (exfalso;omega)
        | (exfalso;simp only[List.length_map] at *;omega)
        | skip
    rintro ⟨⟩ -
    clear aV
    unfold h4 at jC
    have DK:=wy (cr:=credit.Max) mf bE.length 0 (bE,credit.cm,fu) (by omega) rfl (fun y ai=>W.q2 y (mf y ai).1) uA qj uA
    generalize Gf:jF credit.Max bE bE.length 0 (bE,credit.cm,fu)=DL at *
    obtain ⟨pl,pu,ik⟩:=DL
    obtain ⟨g1,g2,g3,g4,g5⟩:=DK
    dsimp only at *
    have hS:=C6 ik (fun f hf=>(g4 f hf).2) (by omega)
    have fS:=Pn bp nj (eP ik)
    have lM:=Uq space now (eP ik) ik lK
    generalize o9 bp (eP ik)=sQ at *
    generalize kC space now (eP ik) ik=DN at *
    obtain ⟨c7,may,sM⟩:=sQ
    obtain ⟨s2,num,wz⟩:=DN
    unfold um at fS
    dsimp only at *
    refine fG (fun _:Unit=>⟨[(1,.lit (.int .i64 now)),(2,.ptr 0 0 0 0),(4,.ptr 1 0 0 0),(9,.ro (A.map aW)),(10,.ptr 2 0 0 0),(11,.ro (ik.map aW))],[(0,some (.box 51 [.lit (.bool aA),.lit (.int .i64 space.Next),.ro (space.az.map bY),.lit (.int .i64 space.dn),.ro (space.cg.map aD),.ro (space.b7.map encI),.lit (.int .i64 bp.cK),.lit (.int .i64 bp.eE),.lit (.int .i64 bp.dW),.lit (.int .i64 bp.Since),.lit (.int .i64 bU.Max),.lit (.int .i64 bU.cm),.lit (.int .i64 credit.Max),.lit (.int .i64 credit.cm),.lit (.int .i64 ids),.lit (.int .i64 cH),.lit (.int .i64 opened),.ro (bE.map cv),.lit (.bool b3),.ro (queue.map aW),.lit (.int .i64 last),.lit (.int .i64 cL),.lit (.bool false),.lit (.int .i64 code)])),(1,some (.box 51 [.lit (.bool false),.lit (.int .i64 0),.lit (.slice none 0 0),.lit (.int .i64 0),.lit (.slice none 0 0),.lit (.slice none 0 0),.lit (.int .i64 0),.lit (.int .i64 0),.lit (.int .i64 0),.lit (.int .i64 0),.lit (.int .i64 0),.lit (.int .i64 0),.lit (.int .i64 0),.lit (.int .i64 0),.lit (.int .i64 0),.lit (.int .i64 0),.lit (.int .i64 0),.lit (.slice none 0 0),.lit (.bool false),.lit (.slice none 0 0),.lit (.int .i64 0),.lit (.int .i64 0),.lit (.bool false),.lit (.int .i64 0)])),(2,some (.box 51 [.lit (.bool aA),.lit (.int .i64 space.Next),.ro (space.az.map bY),.lit (.int .i64 space.dn),.ro (space.cg.map aD),.ro (space.b7.map encI),.lit (.int .i64 bp.cK),.lit (.int .i64 bp.eE),.lit (.int .i64 bp.dW),.lit (.int .i64 bp.Since),.lit (.int .i64 bU.Max),.lit (.int .i64 bU.cm),.lit (.int .i64 credit.Max),.lit (.int .i64 pu),.lit (.int .i64 ids),.lit (.int .i64 cH),.lit (.int .i64 opened),.ro (pl.map cv),.lit (.bool b3),.ro (tq.map aW),.lit (.int .i64 last),.lit (.int .i64 cL),.lit (.bool false),.lit (.int .i64 code)]))],3,Tryz.f108.ntmps⟩) (fun _=>True) ?_ ?_
    ·clear hS fS lM g1 g2 g3 g4 g5 BJ
     (repeat' first|(refine ab ?_;((repeat' first|exact True.intro|refine R.mk ?_ ?_);all_goals intros))|fail "")
     refine b2 (fun x:Nat×List dV×Int×List bc=>⟨[(1,.lit (.int .i64 now)),(2,.ptr 0 0 0 0),(4,.ptr 1 0 0 0),(9,.ro (A.map aW)),(10,.ptr 2 0 0 0),(11,.own 3),(98,.lit (.int .i64 bE.length)),(99,.lit (.int .i64 x.1))],[(0,some (.box 51 [.lit (.bool aA),.lit (.int .i64 space.Next),.ro (space.az.map bY),.lit (.int .i64 space.dn),.ro (space.cg.map aD),.ro (space.b7.map encI),.lit (.int .i64 bp.cK),.lit (.int .i64 bp.eE),.lit (.int .i64 bp.dW),.lit (.int .i64 bp.Since),.lit (.int .i64 bU.Max),.lit (.int .i64 bU.cm),.lit (.int .i64 credit.Max),.lit (.int .i64 credit.cm),.lit (.int .i64 ids),.lit (.int .i64 cH),.lit (.int .i64 opened),.ro (bE.map cv),.lit (.bool b3),.ro (queue.map aW),.lit (.int .i64 last),.lit (.int .i64 cL),.lit (.bool false),.lit (.int .i64 code)])),(1,some (.box 51 [.lit (.bool false),.lit (.int .i64 0),.lit (.slice none 0 0),.lit (.int .i64 0),.lit (.slice none 0 0),.lit (.slice none 0 0),.lit (.int .i64 0),.lit (.int .i64 0),.lit (.int .i64 0),.lit (.int .i64 0),.lit (.int .i64 0),.lit (.int .i64 0),.lit (.int .i64 0),.lit (.int .i64 0),.lit (.int .i64 0),.lit (.int .i64 0),.lit (.int .i64 0),.lit (.slice none 0 0),.lit (.bool false),.lit (.slice none 0 0),.lit (.int .i64 0),.lit (.int .i64 0),.lit (.bool false),.lit (.int .i64 0)])),(2,some (.box 51 [.lit (.bool aA),.lit (.int .i64 space.Next),.ro (space.az.map bY),.lit (.int .i64 space.dn),.ro (space.cg.map aD),.ro (space.b7.map encI),.lit (.int .i64 bp.cK),.lit (.int .i64 bp.eE),.lit (.int .i64 bp.dW),.lit (.int .i64 bp.Since),.lit (.int .i64 bU.Max),.lit (.int .i64 bU.cm),.lit (.int .i64 credit.Max),.lit (.int .i64 x.2.2.1),.lit (.int .i64 ids),.lit (.int .i64 cH),.lit (.int .i64 opened),.ro (x.2.1.map cv),.lit (.bool b3),.ro (tq.map aW),.lit (.int .i64 last),.lit (.int .i64 cL),.lit (.bool false),.lit (.int .i64 code)])),(3,some (.row 111 7 (x.2.2.2.map aW)))],4,Tryz.f108.ntmps⟩)
      (fun x=>x.1<=bE.length/\jF credit.Max bE (bE.length - x.1) x.1 x.2=(pl,pu,ik)/\x.2.1.length=bE.length/\(∀ j,x.1<=j->x.2.1.getD j default=bE.getD j default)/\(0<=x.2.2.1/\x.2.2.1<=credit.Max)/\iG x.2.2.2/\x.2.2.2.length<=12) (fun x=>bE.length - x.1) (0,bE,credit.cm,fu) ⟨Nat.zero_le _,Gf,rfl,fun _ _=>rfl,by first|omega|(dsimp only;omega),qj,by first|omega|(dsimp only;omega)⟩ gf ?_
     clear Gf
     rintro ⟨k,ck,used,o⟩ ⟨ag,hm,MA,eV,mm,bu,Ea⟩
     dsimp only at *
     by_cases aJ:k<bE.length
     ·obtain ⟨n,hn⟩:∃ n,bE.length - k=n+1:=⟨bE.length - k - 1,by omega⟩
      rw[hn] at hm
      unfold jF at hm
      dsimp only at hm
      have ap:=C6 o (fun f hf=>(bu f hf).2) (by omega)
      have bh:=uo (fun f hf=>(bu f hf).2)
      by_cases jq:o.length=12\/jU o<=0
      ·rw[if_pos jq] at hm
       unfold jU at jq
       generalize eP o=z at *
       cases hm
       (repeat' first|(refine l6 (ap) (h:=?_))|(refine l7 (ap) (h:=?_))|(refine ab ?_;((repeat' first|exact True.intro|refine R.mk ?_ ?_);all_goals intros))|fail "")
       all_goals first
        | (refine ⟨(),?_,?_⟩;rotate_left 1;(exact ax);(exact jt))
        | (exfalso;omega)
        | (exfalso;simp only[List.length_map] at *;omega)
        | skip
      ·rw[if_neg jq] at hm
       obtain ⟨iV,wS,wT⟩:=mf _ (cY aJ)
       have wU:=eV k (Nat.le_refl k)
       rw[<- wU] at hm iV wS wT
       have aw:=Uo (ck.getD k default).Out (jU o) (credit.Max - used) iV.2.2.2 (by unfold jU aF;omega) (by unfold aF;omega)
       have lh:=fun I J=>D9 (s:=(ck.getD k default).Out) (room:=jU o) (credit:=credit.Max - used) (id:=(ck.getD k default).Id) iV.2.2.2 ⟨wS,wT⟩ I J
       have uc:=iV.2.2.2.2.1
       unfold aF at uc
       have Rl:jU o=min 120 (376 - eP o):=rfl
       generalize jU o=wV at *
       have ei:min 120 (376 - eP o)=wV:=by omega
       generalize eP o=z at *
       generalize jk (ck.getD k default).Out wV (credit.Max - used)=UW at *
       obtain ⟨S,F,ok,e⟩:=UW
       unfold uh at aw
       dsimp only at *
       by_cases hT:e=0/\ok=true
       ·rw[if_pos hT] at hm
        obtain ⟨he,hb⟩:=hT
        subst he hb
        obtain ⟨⟨d1,d2⟩,Eb,Ec,Ed⟩:=lh rfl rfl
        have oJ:=Eb.2.1
        unfold aF at oJ
        have ij:=IB ⟨aA,space,bp,bU,⟨credit.Max,used+(S.Next - (ck.getD k default).Out.Next)⟩,ids,cH,opened,ck,b3,tq,last,cL,false,code⟩ k { ck.getD k default with Out:=S } kU kU
        unfold nx at ij
        dsimp only at ij
        (repeat' first|(refine l6 (ap) (h:=?_))|(refine l7 (ap) (h:=?_))|(refine hB 20 ?_;((repeat' first|exact True.intro|refine R.mk ?_ ?_);all_goals intros))|fail "")
        rw[ei]
        (repeat' first|(refine ar (aw) (h:=?_))|(refine au (aw) (h:=?_))|(refine ar (ij) (h:=?_))|(refine au (ij) (h:=?_))|(refine cx (r:=(o++[kD F (ck.getD k default).Id]).map aW) ?_ ?_ ?_ ?_ (h:=?_);(exact hU);(exact al);(exact an);(exact ao))|(refine cD (r:=(o++[kD F (ck.getD k default).Id]).map aW) ?_ ?_ ?_ ?_ (h:=?_);(exact hU);(exact al);(exact an);(exact ao))|(refine cE (r:=(o++[kD F (ck.getD k default).Id]).map aW) ?_ ?_ ?_ ?_ (h:=?_);(exact hU);(exact al);(exact an);(exact ao))|(refine cF (r:=(o++[kD F (ck.getD k default).Id]).map aW) ?_ ?_ ?_ ?_ (h:=?_);(exact hU);(exact al);(exact an);(exact ao))|(refine ab ?_;((repeat' first|exact True.intro|refine R.mk ?_ ?_);all_goals intros))|fail "")
        all_goals first
         | (refine ⟨(k+1,ck.set k { ck.getD k default with Out:=S },used+(S.Next - (ck.getD k default).Out.Next),o++[kD F (ck.getD k default).Id]),?_,?_,?_⟩;rotate_left 2;(exact ax);(exact bV);(focus (exact⟨aJ,by(rw[show bE.length - (k+1)=n by omega];exact hm),by(rw[List.length_set];exact MA),fun j ah=>by(rw[getD_set_ne (by omega)];exact eV j (by omega)),by(dsimp only;omega),wh bu Ec Ed,by(rw[List.length_append,List.length_singleton];omega)⟩)))
         | (exfalso;omega)
         | (exfalso;simp only[List.length_map] at *;omega)
         | skip
       ·rw[if_neg hT] at hm
        cases ok
        all_goals
         (repeat' first|(refine l6 (ap) (h:=?_))|(refine l7 (ap) (h:=?_))|(refine hB 20 ?_;((repeat' first|exact True.intro|refine R.mk ?_ ?_);all_goals intros))|fail "")
         rw[ei]
         (repeat' first|(refine ar (aw) (h:=?_))|(refine au (aw) (h:=?_))|(refine ab ?_;((repeat' first|exact True.intro|refine R.mk ?_ ?_);all_goals intros))|fail "")
         all_goals first
          | (refine ⟨(k+1,ck,used,o),?_,?_,?_⟩;rotate_left 2;(exact ax);(exact bV);(focus (exact⟨aJ,by(rw[show bE.length - (k+1)=n by omega];exact hm),MA,fun j ah=>eV j (by omega),mm,bu,Ea⟩)))
          | (exfalso;omega)
          | (exfalso;simp only[List.length_map] at *;omega)
          | (exfalso;exact hT ⟨by omega,rfl⟩)
          | skip
     ·have ct:k=bE.length:=by omega
      subst ct
      rw[Nat.sub_self] at hm
      unfold jF at hm
      cases hm
      (repeat' first|(refine ab ?_;((repeat' first|exact True.intro|refine R.mk ?_ ?_);all_goals intros))|fail "")
      all_goals first
       | (refine ⟨(),?_,?_⟩;rotate_left 1;(exact ax);(exact jt))
       | skip
    rintro ⟨⟩ -
    clear Gf mf ph n3 g2 g4 qj sT si lK nj
    refine fG (fun _:Unit=>⟨[(2,.ptr 0 0 0 0),(4,.ptr 1 0 0 0),(9,.ro (A.map aW))],[(0,some (.box 51 [.lit (.bool aA),.lit (.int .i64 space.Next),.ro (space.az.map bY),.lit (.int .i64 space.dn),.ro (space.cg.map aD),.ro (space.b7.map encI),.lit (.int .i64 bp.cK),.lit (.int .i64 bp.eE),.lit (.int .i64 bp.dW),.lit (.int .i64 bp.Since),.lit (.int .i64 bU.Max),.lit (.int .i64 bU.cm),.lit (.int .i64 credit.Max),.lit (.int .i64 credit.cm),.lit (.int .i64 ids),.lit (.int .i64 cH),.lit (.int .i64 opened),.ro (bE.map cv),.lit (.bool b3),.ro (queue.map aW),.lit (.int .i64 last),.lit (.int .i64 cL),.lit (.bool false),.lit (.int .i64 code)])),(1,some (.box 51 [.lit (.bool false),.lit (.int .i64 0),.lit (.slice none 0 0),.lit (.int .i64 0),.lit (.slice none 0 0),.lit (.slice none 0 0),.lit (.int .i64 0),.lit (.int .i64 0),.lit (.int .i64 0),.lit (.int .i64 0),.lit (.int .i64 0),.lit (.int .i64 0),.lit (.int .i64 0),.lit (.int .i64 0),.lit (.int .i64 0),.lit (.int .i64 0),.lit (.int .i64 0),.lit (.slice none 0 0),.lit (.bool false),.lit (.slice none 0 0),.lit (.int .i64 0),.lit (.int .i64 0),.lit (.bool false),.lit (.int .i64 0)]))],2,Tryz.f108.ntmps⟩) (fun _=>¬ (A.length<ik.length/\may=true/\wz=0)) ?_ ?_
    ·by_cases cj:A.length<ik.length
     ·by_cases rC:wz=0
      ·subst rC
       cases may
       ·(repeat' first|(refine ar (hS) (h:=?_))|(refine au (hS) (h:=?_))|(refine ar (fS) (h:=?_))|(refine au (fS) (h:=?_))|(refine ar (lM) (h:=?_))|(refine au (lM) (h:=?_))|(refine ab ?_;((repeat' first|exact True.intro|refine R.mk ?_ ?_);all_goals intros))|fail "")
        all_goals first
         | (refine ⟨(),?_,?_⟩;rotate_left 1;(exact ax);(focus (exact fun h=>by cases h.2.1)))
         | (exfalso;simp only[List.length_map] at *;omega)
         | skip
       ·rw[if_pos ⟨cj,rfl,rfl⟩]
        unfold pg oH kV
        dsimp only
        (repeat' first|(refine ar (hS) (h:=?_))|(refine au (hS) (h:=?_))|(refine ar (fS) (h:=?_))|(refine au (fS) (h:=?_))|(refine ar (lM) (h:=?_))|(refine au (lM) (h:=?_))|(refine ab ?_;((repeat' first|exact True.intro|refine R.mk ?_ ?_);all_goals intros))|fail "")
        all_goals (try dsimp only at *)
        all_goals first
         | (exact bD)
         | (exfalso;simp only[List.length_map] at *;omega)
         | skip
      ·cases may
       all_goals
        (repeat' first|(refine ar (hS) (h:=?_))|(refine au (hS) (h:=?_))|(refine ar (fS) (h:=?_))|(refine au (fS) (h:=?_))|(refine ar (lM) (h:=?_))|(refine au (lM) (h:=?_))|(refine ab ?_;((repeat' first|exact True.intro|refine R.mk ?_ ?_);all_goals intros))|fail "")
        all_goals first
         | (refine ⟨(),?_,?_⟩;rotate_left 1;(exact ax);(focus (exact fun h=>rC h.2.2)))
         | (exfalso;simp only[List.length_map] at *;omega)
         | skip
     ·(repeat' first|(refine ab ?_;((repeat' first|exact True.intro|refine R.mk ?_ ?_);all_goals intros))|fail "")
      all_goals first
       | (refine ⟨(),?_,?_⟩;rotate_left 1;(exact ax);(focus (exact fun h=>cj h.1)))
       | (exfalso;simp only[List.length_map] at *;omega)
       | skip
    rintro ⟨⟩ sV
    (try dsimp only at sV)
    rw[if_neg sV]
    clear sV lM fS hS
    unfold kV at *
    generalize nA ⟨aA,space,bp,bU,credit,ids,cH,opened,bE,b3,queue,last,cL,false,code⟩ A=cN at *
    obtain ⟨IV,IW,IX,IY⟩:=cN
    dsimp only at *
    (repeat' first|(refine ar (BJ) (h:=?_))|(refine au (BJ) (h:=?_))|(refine ab ?_;((repeat' first|exact True.intro|refine R.mk ?_ ?_);all_goals intros))|fail "")
    all_goals (try dsimp only at *)
    all_goals first
     | (exact bD)
     | (exfalso;omega)
     | skip
   ·rw[if_pos rfl]
    have dx:=My ⟨aA,space,bp,bU,credit,ids,cH,opened,bE,b3,queue,last,cL,true,code⟩ queue hw.1 (by dsimp only at Mz;omega)
    clear hu hw bu
    dsimp only at *
    unfold kV at *
    generalize nA ⟨aA,space,bp,bU,credit,ids,cH,opened,bE,b3,queue,last,cL,true,code⟩ queue=cN at *
    obtain ⟨IV,IW,IX,IY⟩:=cN
    dsimp only at *
    refine aU ae Tryz.func108 rfl ae ?_
    (repeat' first|(refine ar (I) (h:=?_))|(refine au (I) (h:=?_))|(refine ar (dx) (h:=?_))|(refine au (dx) (h:=?_))|(refine dM (cB _ _) (ht:=?_) (hff:=?_) <;> intro _ <;> try (exfalso;omega))|(refine dN (cB _ _) (ht:=?_) (hff:=?_) <;> intro _ <;> try (exfalso;omega))|(refine ab ?_;((repeat' first|exact True.intro|refine R.mk ?_ ?_);all_goals intros))|fail "")
    all_goals (try dsimp only at *)
    all_goals first
     | (exact bD)
     | (exfalso;omega)
     | skip
  ·rw[if_neg hH]
   unfold kV
   clear hu hw bu
   refine aU ae Tryz.func108 rfl ae ?_
   (repeat' first|(refine ar (I) (h:=?_))|(refine au (I) (h:=?_))|(refine dM (cB _ _) (ht:=?_) (hff:=?_) <;> intro _ <;> try (exfalso;omega))|(refine dN (cB _ _) (ht:=?_) (hff:=?_) <;> intro _ <;> try (exfalso;omega))|(refine ab ?_;((repeat' first|exact True.intro|refine R.mk ?_ ?_);all_goals intros))|fail "")
   all_goals (try dsimp only at *)
   all_goals first
    | (exact bD)
    | (exfalso;omega)
    | skip
 ·rw[af] at I ⊢
  rw[if_neg (by decide)]
  unfold kV
  clear hu hw bu
  refine aU ae Tryz.func108 rfl ae ?_
  (repeat' first|(refine ar (I) (h:=?_))|(refine au (I) (h:=?_))|(refine ab ?_;((repeat' first|exact True.intro|refine R.mk ?_ ?_);all_goals intros))|fail "")
  all_goals first
   | (exact bD)
   | skip
end Go.Proofs.YtendheafcbickaaGreat
