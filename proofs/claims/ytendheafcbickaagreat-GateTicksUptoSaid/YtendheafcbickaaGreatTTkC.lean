
import Derived.Test.YtendheafcbickaaGreatTZip
import Derived.Test.YtendheafcbickaaGreatTGo
import Derived.Test.YtendheafcbickaaGreatTMg22
set_option linter.unusedVariables false
set_option linter.unusedSimpArgs false
set_option maxHeartbeats 16000000
namespace Go.Proofs.YtendheafcbickaaGreat
set_option maxRecDepth 100000
attribute [local irreducible] cq a8 bw GStep Fn cu bk cU
theorem Ct (p:fM) (n s t:Int) (hw:hE p):hE (ov p n s t).1:=by
 unfold ov
 split
 ·unfold hE aF;dsimp only;omega
 ·rename_i h
  obtain ⟨aa,aq⟩:=ua (p:=p) (l:=[n,s,t]) (by omega)
  have bj:=aq n (by simp)
  have hb:=aq s (by simp)
  have hc:=aq t (by simp)
  unfold lD at bj hb hc
  unfold lE at aa
  unfold hE aF at hw
  split
  ·unfold hE aF;dsimp only;omega
  ·split
   ·unfold hE aF;dsimp only;omega
   ·unfold hE aF;dsimp only;omega
theorem Cu {f:bc} {n:Int} (hf:dC f) (h:aF n):dC (so f n):=⟨hf.1,hf.2.1,h,hf.2.2.2.1,hf.2.2.2.2.1,hf.2.2.2.2.2.1,hf.2.2.2.2.2.2⟩
theorem NV {c:a6} {f:bc} (hw:ej c) (hf:dC f) (U:f.Kind=17->eb c.aO f.Id<c.aO.length):dC (sq c f):=by
 unfold sq
 split
 ·exact Cu hf hw.2.2.1.1
 ·split
  ·exact Cu hf hw.2.2.2.2.2.1
  ·split
   ·rename_i h
    have:=hw.2.2.2.2.2.2.2.2.1 _ (cY (U h))
    exact Cu hf this.2.1.2.2.2.2
   ·exact hf
theorem NW {c:a6} {f:bc} (hw:ej c) (hf:dC f):∀ y,y ∈ (l2 c f).1->dC y:=by
 have Cv:=hw.2.2.2.2.2.2.2.2.2.2.1
 have hle:=q1 c.aO f.Id
 unfold l2
 split
 ·exact Cv
 ·split
  ·exact Cv
  ·rename_i h
   exact NX _ _ Cv (NV hw hf (fun ow=>by
    rcases Nat.lt_or_ge (eb c.aO f.Id) c.aO.length with I|I
    ·exact I
    ·exact absurd ⟨ow,.inl (by omega)⟩ h))
theorem G4 {c:a6} {f:bc} (hw:ej c) (fj:j9 c.aO) (bl:c.aO.length<=4) (hq:c.Queue.length<=12) (hf:dC f) :
  ej (l3 c (jz c f).1 (jz c f).2.1)/\j9 (jz c f).1/\(jz c f).1.length<=4/\(jz c f).2.1.length<=12:=by
 have ka:=hw
 obtain ⟨w0,cy,cR,w3,ef,dU,eS,fV,h0,ju,jf,jv,jw,k9⟩:=ka
 have same:ej (l3 c c.aO c.Queue)/\j9 c.aO/\c.aO.length<=4/\c.Queue.length<=12:=⟨hw,fj,bl,hq⟩
 unfold jz
 split
 ·split
  ·rename_i U
   split
   ·rename_i af
    have ap:=Cw (fj _ (cY U)).2.2.2 af
    have aq:=G5 fj U ap
    exact⟨⟨w0,cy,cR,w3,ef,dU,eS,by unfold l3;dsimp only;rw[List.length_set];exact fV,fun y ai=>W.q2 y (aq y ai),ju,jf,jv,jw,k9⟩,aq,by dsimp only;rw[List.length_set];exact bl,hq⟩
   ·exact same
  ·exact same
 ·split
  ·have fs:=G6 (c:=c) (f:=f) hq
   have a2:=NW hw hf
   exact⟨⟨w0,cy,cR,w3,ef,dU,eS,fV,h0,by unfold l3;dsimp only;omega,a2,jv,jw,k9⟩,fj,bl,fs⟩
  ·exact same
theorem G7:∀ (l:List bc) {c:a6},ej c->j9 c.aO->c.aO.length<=4->c.Queue.length<=12->(∀ f ∈ l,dC f)->ej (jh c l).1/\j9 (jh c l).1.aO/\(jh c l).1.aO.length<=4/\(jh c l).1.Queue.length<=12
 | [],c,hw,fj,bl,hq,_=>⟨hw,fj,bl,hq⟩
 | f :: l,c,hw,fj,bl,hq,hf=>by
  unfold jh
  split
  ·obtain ⟨fs,a2,a3,a4⟩:=G4 hw fj bl hq (hf f List.mem_cons_self)
   exact G7 l fs a2 a3 a4 (fun g aj=>hf g (List.mem_cons_of_mem _ aj))
  ·exact⟨hw,fj,bl,hq⟩
theorem G8 {now:Int}:∀ (l:List eN) {c:a6},ej c->j9 c.aO->c.aO.length<=4->c.Queue.length<=12->(∀ p ∈ l,jg p)->ej (h1 now c l).1/\j9 (h1 now c l).1.aO/\(h1 now c l).1.aO.length<=4/\(h1 now c l).1.Queue.length<=12
 | [],c,hw,fj,bl,hq,_=>⟨hw,fj,bl,hq⟩
 | p :: l,c,hw,fj,bl,hq,aw=>by
  have sr:=(aw p List.mem_cons_self).2.2.2.2
  have kb:ej (nR c (ss c p now)):=⟨hw.1,Ct _ _ _ _ hw.2.1,hw.2.2⟩
  obtain ⟨fs,a2,a3,a4⟩:=G7 p.Frames kb fj bl hq sr
  unfold h1
  split
  ·exact G8 l fs a2 a3 a4 (fun g aj=>aw g (List.mem_cons_of_mem _ aj))
  ·exact⟨fs,a2,a3,a4⟩
theorem G9 (s:c8) (now cO:Int):(hF s now cO).2.1.length<=24:=by
 unfold hF
 rcases lF s with⟨af,aa⟩ | ⟨af,aa⟩
 ·rw[af,if_neg (by omega)]
  split
  ·simp
  ·have:=List.length_filter_le (late now cO) s.az
   have:=aa.1.1.2.2.2.2.1
   dsimp only;omega
 ·rw[af,if_pos (by omega)];simp
theorem NY (c:a6) (f:bc):aF (jz c f).2.2:=by
 unfold jz
 split
 ·split
  ·split
   ·unfold aF;dsimp only;omega
   ·dsimp only
    unfold ld
    split
    ·rcases y0 (l4 c f.Id).Out f.bI f.Data.length f.Fin with⟨af,e⟩ | ⟨_,h,eO,e⟩ | ⟨af,bu,aw,e⟩ <;> (rw[e];unfold aF;dsimp only;first|omega|(have:=su (l4 c f.Id).Out;omega))
    ·unfold aF;dsimp only;omega
  ·unfold aF;dsimp only;omega
 ·split
  ·dsimp only
   unfold l2
   split
   ·unfold aF;dsimp only;omega
   ·split
    ·unfold aF;dsimp only;omega
    ·unfold hG
     split
     ·unfold aF;dsimp only;omega
     ·split <;> (unfold aF;dsimp only;omega)
  ·unfold aF;dsimp only;omega
theorem Ha:∀ (l:List bc) (c:a6),aF (jh c l).2
 | [],c=>by unfold jh aF;dsimp only;omega
 | f :: l,c=>by
  unfold jh
  split
  ·exact Ha l _
  ·exact NY c f
theorem y1 {now:Int}:∀ (l:List eN) (c:a6),aF (h1 now c l).2
 | [],c=>by unfold h1 aF;dsimp only;omega
 | p :: l,c=>by
  unfold h1
  split
  ·exact y1 l _
  ·exact Ha _ _
theorem NZ {c:a6} {e:Int} (hw:ej c) (he:aF e):ej (kN c e):=by
 obtain ⟨w0,cy,cR,w3,ef,dU,eS,fV,h0,ju,jf,jv,jw,k9⟩:=hw
 refine ⟨w0,cy,cR,w3,ef,dU,eS,by unfold kN;simp,(fun y ai=>by cases ai),by unfold kN;simp,fun y ai=>?_,jv,jw,he⟩
 have ai:y ∈ [ox e]:=ai
 rw[List.mem_singleton] at ai
 subst ai
 unfold ox dC
 exact⟨by unfold aF;dsimp only;omega,by unfold aF;dsimp only;omega,by unfold aF;dsimp only;omega,he,by simp,(fun y ai=>by cases ai),by simp⟩
def sv (e:Int):List V:=[.lit (.int .i64 28),.lit (.int .i64 0),.lit (.int .i64 0),.lit (.bool false),.lit (.int .i64 e),.lit (.slice none 0 0),.lit (.slice none 0 0)]
theorem Hb (e:Int):∀ i j,i<[sv e].length->j<(bH [sv e] i).length->q3 (bx (bH [sv e] i) j) (bx (bH ([ox e].map aW) i) j):=by
 intro i j hi ah
 obtain rfl:i=0:=by simp at hi;omega
 have ah:j<7:=ah
 match j,ah with
 | 0,_|1,_|2,_|3,_|4,_=>exact .inl rfl
 | 5,_|6,_=>exact .inr ⟨rfl,rfl⟩
 | n+7,h=>omega
theorem Hc (e:Int):∀ i,i<[sv e].length->(bH ([ox e].map aW) i).length=(bH [sv e] i).length:=by
 intro i hi
 obtain rfl:i=0:=by simp at hi;omega
 rfl
theorem Hd (c:a6) (e:Int) :
  cU Tryz.prog 65 [.ptr 0 0 0 0,.lit (.int .i64 e)] [(0,some (.box 116 (gp c (.own 1) (.own 2))))] 3
   (.b0 []) [(0,some (.box 116 [.lit (.bool c.Client),.lit (.int .i64 c.bf.Next),.ro (c.bf.az.map bY),.lit (.int .i64 c.bf.dn),.ro (c.bf.cg.map aD),.ro (c.bf.b7.map encI),.lit (.int .i64 c.e8.cK),.lit (.int .i64 c.e8.eE),.lit (.int .i64 c.e8.dW),.lit (.int .i64 c.e8.Since),.lit (.int .i64 c.fL.Max),.lit (.int .i64 c.fL.cm),.lit (.int .i64 c.fQ.Max),.lit (.int .i64 c.fQ.cm),.lit (.int .i64 c.ks),.lit (.int .i64 c.kK),.lit (.int .i64 c.gJ),.lit (.slice none 0 0),.lit (.bool false),.ro ([ox e].map aW),.lit (.int .i64 c.jO),.lit (.int .i64 c.kL),.lit (.bool true),.lit (.int .i64 e)]))] 3:=by
 unfold gp
 refine gG ae Tryz.func65 rfl ae (by rfl) ?_
 (repeat' first|refine bB (hq:=y2 rfl rfl rfl rfl) (h:=?_)|(refine ep (h:=?_);refine y3 (y4 16 (l:=[sv e]) (fl:=[ox e].map aW) rfl rfl (Hc e) (Hb e)) ?_)|(refine fc ?_;((repeat' first|exact True.intro|refine R.mk ?_ ?_);all_goals intros))|refine bB (h:=?_)|refine bB (hq:=eo rfl rfl rfl ew ey rfl rfl rfl rfl) (h:=?_)|refine da (h:=?_)|refine dJ (h:=?_)|refine ep (h:=?_)|refine ez (h:=?_)|refine eA (h:=?_)|refine eB (h:=?_)|refine eC (h:=?_)|refine eD (h:=?_)|(refine dS rfl ?_ (h:=?_);(exact bP))|(refine dT rfl ?_ (h:=?_);(exact bP))|fail "")
 all_goals first
  | (exact fg)
  | skip
theorem N0 (c:a6) (now:Int) (hu:W.ej c):Fn Tryz.prog 48 [.agg (e2 c),.lit (.int .i64 now)] (ub (ku c now)):=by
 have hw:=W.pT c hu
 have I:=Ck c hw
 have ch:=qX c hw
 unfold ku ub
 rcases tZ c with⟨af,bu⟩ | ⟨af,bu⟩
 ·rw[af] at I ⊢
  rw[if_pos rfl]
  by_cases hH:0<=now/\now<=1099511627776
  ·rw[if_pos hH]
   have vE:=bu.1.1.1.2
   unfold iR at vE
   cases gK:c.iz
   ·rw[if_neg Bool.false_ne_true]
    by_cases hid:60<=now - c.jO
    ·rw[if_pos hid]
     have fX:=Hd c 16
     clear hu hw bu
     unfold kN lf
     unfold gp at *
     obtain ⟨aA,space,bp,bU,credit,ids,cH,opened,bE,b3,queue,last,cL,dw,code⟩:=c
     dsimp only at *
     subst gK
     refine aU ae Tryz.func48 rfl ae ?_
     (repeat' first|(refine ar (I) (h:=?_))|(refine au (I) (h:=?_))|(refine eL [] (ch) (h:=?_))|(refine eM [] (ch) (h:=?_))|(refine kc (ch) (h:=?_))|(refine eL [4,2,3] (fX) (h:=?_))|(refine eM [4,2,3] (fX) (h:=?_))|(refine gU [4,2,3] (fX) (h:=?_))|(refine ab ?_;((repeat' first|exact True.intro|refine R.mk ?_ ?_);all_goals intros))|fail "")
     all_goals (try dsimp only at *)
     all_goals first
      | (exact bD)
      | (exfalso;omega)
      | skip
    ·rw[if_neg hid]
     have pU:=N1 c.bf now 8 hw.1
     obtain ⟨v1,v2,v3⟩:=He c.bf now 8 hw.1
     have v4:=G9 c.bf now 8
     generalize hF c.bf now 8=O at *
     obtain ⟨q4,lost,N2⟩:=O
     dsimp only at *
     have fj:j9 c.aO:=fun y ai=>hu.2.2.2.2.2.2.2.2.1 y ai
     have kb:ej (ie c q4):=⟨v1,hw.2⟩
     obtain ⟨fs,a2,a3,a4⟩:=G8 (now:=now) lost kb fj (by have:=vE;unfold ie;dsimp only;omega) (by unfold ie;dsimp only;omega) v3
     have kd:=N3 (ie c q4) lost now fj (by unfold ie;dsimp only;omega) (by unfold ie;dsimp only;omega) (by omega) v3
     generalize N4:h1 now (ie c q4) lost=cN at *
     obtain ⟨C,e⟩:=cN
     have kd:=kd C e rfl
     dsimp only at *
     by_cases he:e=0
     ·subst he
      rw[if_pos rfl]
      have kd:=kd _ (.inl ⟨rfl,rfl⟩)
      have lG:=qX C fs
      clear hu hw bu kb fs a2 a3 a4 v1 v2 v3 v4
      unfold ie gp at *
      obtain ⟨aA,space,bp,bU,credit,ids,cH,opened,bE,b3,queue,last,cL,dw,code⟩:=c
      dsimp only at *
      subst gK
      refine aU ae Tryz.func48 rfl ae ?_
      (repeat' first|(refine ar (I) (h:=?_))|(refine au (I) (h:=?_))|(refine eL [] (ch) (h:=?_))|(refine eM [] (ch) (h:=?_))|(refine kc (ch) (h:=?_))|(refine ar (pU) (h:=?_))|(refine au (pU) (h:=?_))|(refine eL [4,2,3] (kd) (h:=?_))|(refine eM [4,2,3] (kd) (h:=?_))|(refine gU [4,2,3] (kd) (h:=?_))|(refine hB 18 ?_;((repeat' first|exact True.intro|refine R.mk ?_ ?_);all_goals intros))|fail "")
      all_goals (try (exfalso;omega))
      refine lZ (bG:=⟨[(4,.ptr 0 0 0 0),(7,.ptr 1 0 0 0)],[(0,some (.box 51 [.lit (.bool false),.lit (.int .i64 0),.lit (.slice none 0 0),.lit (.int .i64 0),.lit (.slice none 0 0),.lit (.slice none 0 0),.lit (.int .i64 0),.lit (.int .i64 0),.lit (.int .i64 0),.lit (.int .i64 0),.lit (.int .i64 0),.lit (.int .i64 0),.lit (.int .i64 0),.lit (.int .i64 0),.lit (.int .i64 0),.lit (.int .i64 0),.lit (.int .i64 0),.lit (.slice none 0 0),.lit (.bool false),.lit (.slice none 0 0),.lit (.int .i64 0),.lit (.int .i64 0),.lit (.bool false),.lit (.int .i64 0)])),(1,some (.box 116 [.lit (.bool C.Client),.lit (.int .i64 C.bf.Next),.ro (C.bf.az.map bY),.lit (.int .i64 C.bf.dn),.ro (C.bf.cg.map aD),.ro (C.bf.b7.map encI),.lit (.int .i64 C.e8.cK),.lit (.int .i64 C.e8.eE),.lit (.int .i64 C.e8.dW),.lit (.int .i64 C.e8.Since),.lit (.int .i64 C.fL.Max),.lit (.int .i64 C.fL.cm),.lit (.int .i64 C.fQ.Max),.lit (.int .i64 C.fQ.cm),.lit (.int .i64 C.ks),.lit (.int .i64 C.kK),.lit (.int .i64 C.gJ),.ro (C.aO.map cv),.lit (.bool C.ke),.ro (C.Queue.map aW),.lit (.int .i64 C.jO),.lit (.int .i64 C.kL),.lit (.bool C.iz),.lit (.int .i64 C.Code)]))],2,Tryz.f48.ntmps⟩) gf ?_
      (repeat' first|(refine eL [] (lG) (h:=?_))|(refine eM [] (lG) (h:=?_))|(refine kc (lG) (h:=?_))|(refine ab ?_;((repeat' first|exact True.intro|refine R.mk ?_ ?_);all_goals intros))|fail "")
      all_goals (try dsimp only at *)
      all_goals first
       | (exact bD)
       | (exfalso;omega)
       | skip
     ·rw[if_neg he]
      have kd:=kd _ (.inr ⟨he,rfl⟩)
      have fX:=Hd C e
      have lG:=fun h=>qX (kN C e) h
      have N5:aF e:=by have:=y1 (now:=now) lost (ie c q4);rw[N4] at this;exact this
      have lG:=lG (NZ fs N5)
      clear hu hw bu kb fs a2 a3 a4 v1 v2 v3 v4
      unfold kN at *
      unfold ie gp at *
      obtain ⟨aA,space,bp,bU,credit,ids,cH,opened,bE,b3,queue,last,cL,dw,code⟩:=c
      dsimp only at *
      subst gK
      refine aU ae Tryz.func48 rfl ae ?_
      (repeat' first|(refine ar (I) (h:=?_))|(refine au (I) (h:=?_))|(refine eL [] (ch) (h:=?_))|(refine eM [] (ch) (h:=?_))|(refine kc (ch) (h:=?_))|(refine ar (pU) (h:=?_))|(refine au (pU) (h:=?_))|(refine eL [4,2,3] (kd) (h:=?_))|(refine eM [4,2,3] (kd) (h:=?_))|(refine gU [4,2,3] (kd) (h:=?_))|(refine eL [4,2,6] (fX) (h:=?_))|(refine eM [4,2,6] (fX) (h:=?_))|(refine gU [4,2,6] (fX) (h:=?_))|(refine eL [] (lG) (h:=?_))|(refine eM [] (lG) (h:=?_))|(refine kc (lG) (h:=?_))|(refine ab ?_;((repeat' first|exact True.intro|refine R.mk ?_ ?_);all_goals intros))|fail "")
      all_goals (try dsimp only at *)
      all_goals first
       | (exact bD)
       | (exfalso;omega)
       | skip
   ·rw[if_pos rfl]
    clear hu hw bu
    unfold gp at *
    obtain ⟨aA,space,bp,bU,credit,ids,cH,opened,bE,b3,queue,last,cL,dw,code⟩:=c
    dsimp only at *
    subst gK
    refine aU ae Tryz.func48 rfl ae ?_
    (repeat' first|(refine ar (I) (h:=?_))|(refine au (I) (h:=?_))|(refine eL [] (ch) (h:=?_))|(refine eM [] (ch) (h:=?_))|(refine kc (ch) (h:=?_))|(refine ab ?_;((repeat' first|exact True.intro|refine R.mk ?_ ?_);all_goals intros))|fail "")
    all_goals (try dsimp only at *)
    all_goals first
     | (exact bD)
     | (exfalso;omega)
     | skip
  ·rw[if_neg hH]
   clear hu hw bu
   refine aU ae Tryz.func48 rfl ae ?_
   (repeat' first|(refine ar (I) (h:=?_))|(refine au (I) (h:=?_))|(refine ab ?_;((repeat' first|exact True.intro|refine R.mk ?_ ?_);all_goals intros))|fail "")
   all_goals (try dsimp only at *)
   all_goals first
    | (exact bD)
    | (exfalso;omega)
    | skip
 ·rw[af] at I ⊢
  rw[if_neg (by decide)]
  clear hu hw bu
  refine aU ae Tryz.func48 rfl ae ?_
  (repeat' first|(refine ar (I) (h:=?_))|(refine au (I) (h:=?_))|(refine ab ?_;((repeat' first|exact True.intro|refine R.mk ?_ ?_);all_goals intros))|fail "")
  all_goals first
   | (exact bD)
   | skip
end Go.Proofs.YtendheafcbickaaGreat
