
import Derived.Test.YtendheafcbickaaGreatTZip
import Derived.Test.YtendheafcbickaaGreatTGo
import Derived.Test.YtendheafcbickaaGreatTGtF
import Derived.Test.YtendheafcbickaaGreatTMg15
set_option linter.unusedVariables false
set_option linter.unusedSimpArgs false
set_option maxHeartbeats 16000000
namespace Go.Proofs.YtendheafcbickaaGreat
set_option maxRecDepth 100000
attribute [local irreducible] cq a8 bw GStep Fn cu bk cU
def vJ (r:cl×List dG×Int):V:=.b0 [.agg (fU r.1),.ro (r.2.1.map dc),.lit (.int .i64 r.2.2)]
def jV {α:Type} (f:α->α) (l:List α) (k:Nat):List α:=(l.map f).take k++l.drop k
theorem JJ {α:Type} (f:α->α) (l:List α):jV f l 0=l:=by unfold jV;simp
theorem JK {α:Type} (f:α->α) (l:List α):jV f l l.length=l.map f:=by
 unfold jV
 rw[List.drop_length,List.append_nil,List.take_of_length_le (by rw[List.length_map];omega)]
theorem JL {α:Type} (f:α->α) (l:List α) (k:Nat) (h:k<=l.length):(jV f l k).length=l.length:=by
 unfold jV
 rw[List.length_append,List.length_take,List.length_map,List.length_drop]
 omega
theorem JM {α:Type} [Inhabited α] (f:α->α) (l:List α) (k:Nat) (h:k<l.length):(jV f l k).getD k default=l.getD k default:=by
 unfold jV
 have e:((l.map f).take k).length=k:=by rw[List.length_take,List.length_map];omega
 rw[List.getD_eq_getElem?_getD,List.getElem?_append_right (by omega),e,Nat.sub_self,List.getElem?_drop,Nat.add_zero,<- List.getD_eq_getElem?_getD]
theorem JN {α:Type} [Inhabited α] (f:α->α) (l:List α) (k:Nat) (h:k<l.length):(jV f l k).set k (f (l.getD k default))=jV f l (k+1):=by
 unfold jV
 have e:((l.map f).take k).length=k:=by rw[List.length_take,List.length_map];omega
 have tY:(l.map f)[k]? = some (f (l.getD k default)):=by rw[List.getElem?_map,List.getElem?_eq_getElem h,List.getD_eq_getElem?_getD,List.getElem?_eq_getElem h];rfl
 rw[List.set_append_right _ _ (by omega),e,Nat.sub_self,drop_cons h,List.set_cons_zero,List.take_add_one,tY]
 simp
theorem RB (g:cl) (i:Nat) (n:cb) (aq:g.bb.length<=1000000) (hi:i<g.bb.length):Fn Tryz.prog 46 [.agg (fU g),.lit (.int .i64 i),.agg (cQ n)] (.agg (fU (wF g i n))):=by
 unfold wF
 generalize fA:fU { g with bb:=g.bb.set i n }=Z
 unfold fU at fA
 dsimp only at fA
 subst fA
 have eT:i<(g.bb.map cQ).length:=by rw[List.length_map];exact hi
 have ap:(g.bb.map cQ).set i (cQ n)=(g.bb.set i n).map cQ:=by rw[List.map_set]
 have ga:=je cQ hi
 have jq:(g.bb.map cQ).set i (setAt 0 (cQ n) (bH (g.bb.map cQ) i))=(g.bb.set i n).map cQ:=by rw[ga];exact ap
 refine aU ae Tryz.func46 rfl ae ?_
 (repeat' first|(refine cx (r:=g.bb.map cQ) ?_ ?_ ?_ ?_ (h:=?_);(exact aM);(exact al);(exact an);(exact ao))|(refine cD (r:=g.bb.map cQ) ?_ ?_ ?_ ?_ (h:=?_);(exact aM);(exact al);(exact an);(exact ao))|(refine cE (r:=g.bb.map cQ) ?_ ?_ ?_ ?_ (h:=?_);(exact aM);(exact al);(exact an);(exact ao))|(refine cF (r:=g.bb.map cQ) ?_ ?_ ?_ ?_ (h:=?_);(exact aM);(exact al);(exact an);(exact ao))|(refine mG (r:=(g.bb.set i n).map cQ) ?_ ?_ (h:=?_);(exact hQ);(focus ((exact jq))))|(refine mH (r:=(g.bb.set i n).map cQ) ?_ ?_ (h:=?_);(exact hQ);(focus ((exact jq))))|(refine ab ?_;((repeat' first|exact True.intro|refine R.mk ?_ ?_);all_goals intros))|fail "")
 all_goals first
  | (exact bD)
  | skip
theorem CH {B:Nat} {now:Int} {n:cb} (h:jQ B n) (af:(ku n.bX now).2=0):jQ B (fD now n):=by
 obtain ⟨fs,a2⟩:=RC h.j h.l af
 exact h.v8 fs a2
theorem CI {g:cl} {now:Int} (af:mO g=0) (hn:0<=now/\now<=1099511627776) {y:cb} (ai:y ∈ g.bb):(ku y.bX now).2=0:=by
 unfold mO at af
 split at af
 ·rename_i ag
  obtain ⟨_,ag⟩:=uF.1 ag
  obtain ⟨i,hi,rfl⟩:=List.getElem_of_mem ai
  have hh:=ag i hi
  unfold n4 at hh
  rw[List.getD_eq_getElem?_getD,List.getElem?_eq_getElem hi] at hh
  dsimp only[Option.getD_some] at hh
  unfold ku
  rw[if_pos hh.2.1,if_pos hn]
  split
  ·rfl
  ·split
   ·rfl
   ·split <;> rfl
 ·cases af
theorem Od (g:cl) (n:Int) (hu:bR.iT g):Fn Tryz.prog 14 [.agg (fU g),.lit (.int .i64 n)] (vJ (o1 g n)):=by
 have hw:=bR.Eh g hu
 have I:=RD g hw
 have oJ:=hw.2.2.2.2.1
 have kA:=fun af=>CG (g:=g) af hu
 have aV:=fun af=>CI (g:=g) (now:=g.b4+n) af
 unfold o1 vJ
 generalize mO g=f at *
 by_cases af:f=0
 ·subst af
  rw[if_pos rfl]
  obtain ⟨gh,dx,ud⟩:=kA rfl
  have l8:=dx.k
  have Hj:=gh.n
  by_cases hn:(1<=n/\n<=60)/\g.b4+n<=1099511627776
  ·rw[if_pos hn]
   have s6:=fun y ai=>aV rfl (by omega) (y:=y) ai
   have AA:=GX g oJ (by omega)
   unfold Cf at AA
   have pZ:∀ y ∈ g.bb.map (fD (g.b4+n)),jQ 4194304 y:=fun y ai=>by
    obtain ⟨z,bh,rfl⟩:=List.mem_map.1 ai
    exact CH (dx.n z bh) (s6 z bh)
   have p0:iu (gq (kw g (g.b4+n)) (g.bb.map (fD (g.b4+n)))):=⟨gh.s,(by unfold gq kw;dsimp only;omega),gh.x,gh.t0,gh.t1,gh.t2,gh.t3,gh.h⟩
   have Hk:(g.bb.map (fD (g.b4+n))).length=g.bb.length:=List.length_map ..
   have nT:=CJ (B:=4194304) (o:=[]) (by omega) p0 ⟨by(unfold gq;dsimp only;omega),pZ⟩
   unfold pk at nT ⊢
   generalize bn:jB ((gq (kw g (g.b4+n)) (g.bb.map (fD (g.b4+n))))).b4 ((gq (kw g (g.b4+n)) (g.bb.map (fD (g.b4+n))))).bb (gq (kw g (g.b4+n)) (g.bb.map (fD (g.b4+n)))) [] []=cN at *
   obtain ⟨G,O,L⟩:=cN
   have dm:=PU (B:=4194304) (gq (kw g (g.b4+n)) (g.bb.map (fD (g.b4+n)))) _ [] (by omega) p0 pZ rfl (by omega) (by simp) G O L bn
   have fr:=NI (gq G L) (fun y ai=>W.vI _ ((nT.2.1.n y ai).wf (by omega))) (Nat.le_trans nT.2.1.k (by omega))
   unfold qW gq kw at dm
   dsimp only at dm
   generalize fA:fU (gq G L)=Z at fr ⊢
   unfold fU gq at fA
   dsimp only at fA
   subst fA
   have wX:=dx.n
   clear kA ud gh dx p0 nT pZ bn aV hu hw oJ
   refine aU ae Tryz.func14 rfl ae ?_
   (repeat' first|(refine ar (I) (h:=?_))|(refine au (I) (h:=?_))|(refine eL [] (AA) (h:=?_))|(refine eM [] (AA) (h:=?_))|(refine kc (AA) (h:=?_))|(refine ab ?_;((repeat' first|exact True.intro|refine R.mk ?_ ?_);all_goals intros))|fail "")
   all_goals try (exfalso;omega)
   refine b2 (fun k:Nat=>⟨[(8,.ptr 2 0 0 0),(4,.ptr 1 0 0 0),(5,.lit (.slice none 0 0)),(6,.lit (.int .i64 0)),(49,.lit (.int .i64 g.bb.length)),(50,.lit (.int .i64 k))],[(1,some (.box 28 [.lit (.int .u64 0),.lit (.int .i64 0),.lit (.int .i64 0),.lit (.slice none 0 0),.lit (.bool false),.lit (.int .i64 0),.lit (.int .i64 0),.lit (.bool false),.lit (.int .i64 0),.lit (.int .i64 0),.lit (.bool false),.lit (.int .i64 0),.lit (.int .i64 0),.lit (.bool false),.lit (.int .i64 0),.lit (.int .i64 0),.lit (.bool false),.lit (.int .i64 0)])),(2,some (.box 86 [.lit (.int .u64 g.iQ),.lit (.int .i64 (g.b4+n)),.lit (.int .i64 g.Next),.own 3,.lit (.bool g.c1.bO),.lit (.int .i64 g.c1.bM),.lit (.int .i64 g.c1.az),.lit (.bool g.c2.bO),.lit (.int .i64 g.c2.bM),.lit (.int .i64 g.c2.az),.lit (.bool g.c3.bO),.lit (.int .i64 g.c3.bM),.lit (.int .i64 g.c3.az),.lit (.bool g.c4.bO),.lit (.int .i64 g.c4.bM),.lit (.int .i64 g.c4.az),.lit (.bool g.jN),.lit (.int .i64 g.hR),.lit (.slice none 0 0)])),(3,some (.row 90 29 ((jV (fD (g.b4+n)) g.bb k).map cQ)))],4,Tryz.f14.ntmps⟩) (fun k=>k<=g.bb.length) (fun k=>g.bb.length - k) 0 (Nat.zero_le _) (by rw[JJ];(exact ax)) ?_
   intro k ag
   by_cases aJ:k<g.bb.length
   ·have ai:=wX _ (cY aJ)
    have J:=N0 (g.bb.getD k default).bX (g.b4+n) (sL ai.j ai.l (by omega))
    have RE:=s6 _ (cY aJ)
    have qT:=JL (fD (g.b4+n)) g.bb k ag
    have JO:=JM (fD (g.b4+n)) g.bb k aJ
    have oN:=JN (fD (g.b4+n)) g.bb k aJ
    have eT:k<((jV (fD (g.b4+n)) g.bb k).map cQ).length:=by rw[List.length_map];omega
    have ga:bH ((jV (fD (g.b4+n)) g.bb k).map cQ) k=cQ (g.bb.getD k default):=by rw[je cQ (by omega),JO]
    have jq:((jV (fD (g.b4+n)) g.bb k).map cQ).set k (setAt 5 (e2 (ku (g.bb.getD k default).bX (g.b4+n)).1) (bH ((jV (fD (g.b4+n)) g.bb k).map cQ) k))=(jV (fD (g.b4+n)) g.bb (k+1)).map cQ:=by
     rw[ga,<- oN,List.map_set];rfl
    generalize ku (g.bb.getD k default).bX (g.b4+n)=Ei at *
    obtain ⟨RF,RG⟩:=Ei
    unfold ub at J
    dsimp only at *
    clear wX s6 oN
    (repeat' first|refine pN [(26,3)] (h:=?_)|(refine ar (J) (h:=?_))|(refine au (J) (h:=?_))|refine bB (hq:=nB rfl rfl rfl (im rfl eT rfl ga) rfl) (h:=?_)|refine bB (hq:=mn rfl rfl rfl rfl (im rfl eT rfl ga) (Nat.le_of_ble_eq_true rfl)) (h:=?_)|refine dJ (hq:=fun N=>nB rfl rfl rfl (im rfl eT rfl ga) rfl) (h:=?_)|refine dJ (hq:=fun N=>mn rfl rfl rfl rfl (im rfl eT rfl ga) (Nat.le_of_ble_eq_true rfl)) (h:=?_)|(refine mG (r:=(jV (fD (g.b4+n)) g.bb (k+1)).map cQ) ?_ ?_ (h:=?_);(exact hQ);(focus ((exact jq))))|(refine mH (r:=(jV (fD (g.b4+n)) g.bb (k+1)).map cQ) ?_ ?_ (h:=?_);(exact hQ);(focus ((exact jq))))|(refine fc ?_;((repeat' first|exact True.intro|refine R.mk ?_ ?_);all_goals intros))|refine bB (h:=?_)|refine bB (hq:=eo rfl rfl rfl ew ey rfl rfl rfl rfl) (h:=?_)|refine da (h:=?_)|refine dJ (h:=?_)|refine ep (h:=?_)|refine ez (h:=?_)|refine eA (h:=?_)|refine eB (h:=?_)|refine eC (h:=?_)|refine eD (h:=?_)|(refine dS rfl ?_ (h:=?_);(exact bP))|(refine dT rfl ?_ (h:=?_);(exact bP))|fail "")
    all_goals first
     | (refine ⟨k+1,?_,?_,?_⟩;rotate_left 2;(exact ax);(exact bN);(exact gI))
     | (exfalso;omega)
     | skip
   ·have ct:k=g.bb.length:=by omega
    subst ct
    rw[JK]
    (repeat' first|(refine hB 13 ?_;((repeat' first|exact True.intro|refine R.mk ?_ ?_);all_goals intros))|fail "")
    all_goals try (exfalso;omega)
    refine lZ (bG:=⟨[(8,.ptr 1 0 0 0),(4,.ptr 0 0 0 0),(5,.lit (.slice none 0 0)),(6,.lit (.int .i64 0))],[(0,some (.box 28 [.lit (.int .u64 0),.lit (.int .i64 0),.lit (.int .i64 0),.lit (.slice none 0 0),.lit (.bool false),.lit (.int .i64 0),.lit (.int .i64 0),.lit (.bool false),.lit (.int .i64 0),.lit (.int .i64 0),.lit (.bool false),.lit (.int .i64 0),.lit (.int .i64 0),.lit (.bool false),.lit (.int .i64 0),.lit (.int .i64 0),.lit (.bool false),.lit (.int .i64 0)])),(1,some (.box 86 [.lit (.int .u64 g.iQ),.lit (.int .i64 (g.b4+n)),.lit (.int .i64 g.Next),.ro ((g.bb.map (fD (g.b4+n))).map cQ),.lit (.bool g.c1.bO),.lit (.int .i64 g.c1.bM),.lit (.int .i64 g.c1.az),.lit (.bool g.c2.bO),.lit (.int .i64 g.c2.bM),.lit (.int .i64 g.c2.az),.lit (.bool g.c3.bO),.lit (.int .i64 g.c3.bM),.lit (.int .i64 g.c3.az),.lit (.bool g.c4.bO),.lit (.int .i64 g.c4.bM),.lit (.int .i64 g.c4.az),.lit (.bool g.jN),.lit (.int .i64 g.hR),.lit (.slice none 0 0)]))],2,Tryz.f14.ntmps⟩) gf ?_
    refine lZ (Rw (id:=1) (j0:=18) 99 2 rfl rfl rfl rfl (Nat.le_of_ble_eq_true rfl) rfl rfl) ?_
    (repeat' first|(refine eL [1,2] (dm) (h:=?_))|(refine eM [1,2] (dm) (h:=?_))|(refine gU [1,2] (dm) (h:=?_))|(refine hB 14 ?_;((repeat' first|exact True.intro|refine R.mk ?_ ?_);all_goals intros))|fail "")
    refine lZ (bG:=⟨[(8,.ptr 1 0 0 0),(4,.ptr 0 0 0 0),(5,.lit (.slice none 0 0)),(6,.lit (.int .i64 0))],[(0,some (.box 28 [.lit (.int .u64 0),.lit (.int .i64 0),.lit (.int .i64 0),.lit (.slice none 0 0),.lit (.bool false),.lit (.int .i64 0),.lit (.int .i64 0),.lit (.bool false),.lit (.int .i64 0),.lit (.int .i64 0),.lit (.bool false),.lit (.int .i64 0),.lit (.int .i64 0),.lit (.bool false),.lit (.int .i64 0),.lit (.int .i64 0),.lit (.bool false),.lit (.int .i64 0)])),(1,some (.box 86 [.lit (.int .u64 G.iQ),.lit (.int .i64 G.b4),.lit (.int .i64 G.Next),.ro (L.map cQ),.lit (.bool G.c1.bO),.lit (.int .i64 G.c1.bM),.lit (.int .i64 G.c1.az),.lit (.bool G.c2.bO),.lit (.int .i64 G.c2.bM),.lit (.int .i64 G.c2.az),.lit (.bool G.c3.bO),.lit (.int .i64 G.c3.bM),.lit (.int .i64 G.c3.az),.lit (.bool G.c4.bO),.lit (.int .i64 G.c4.bM),.lit (.int .i64 G.c4.az),.lit (.bool G.jN),.lit (.int .i64 G.hR),.ro (O.map dc)]))],2,Tryz.f14.ntmps⟩) gf ?_
    (repeat' first|(refine ar (fr) (h:=?_))|(refine au (fr) (h:=?_))|(refine ab ?_;((repeat' first|exact True.intro|refine R.mk ?_ ?_);all_goals intros))|fail "")
    all_goals (try dsimp only at *)
    all_goals first
     | (exact bD)
     | (exfalso;omega)
     | skip
  ·rw[if_neg hn]
   clear kA ud gh dx hu aV hw oJ
   refine aU ae Tryz.func14 rfl ae ?_
   (repeat' first|(refine ar (I) (h:=?_))|(refine au (I) (h:=?_))|(refine ab ?_;((repeat' first|exact True.intro|refine R.mk ?_ ?_);all_goals intros))|fail "")
   all_goals (try dsimp only at *)
   all_goals first
    | (exact bD)
    | (exfalso;omega)
    | skip
 ·rw[if_neg af]
  clear kA hu aV hw oJ
  refine aU ae Tryz.func14 rfl ae ?_
  (repeat' first|(refine ar (I) (h:=?_))|(refine au (I) (h:=?_))|(refine ab ?_;((repeat' first|exact True.intro|refine R.mk ?_ ?_);all_goals intros))|fail "")
  all_goals (try dsimp only at *)
  all_goals first
   | (exact bD)
   | (exfalso;omega)
   | skip
theorem Oe (g:cl) (n:Int) (hu:bR.iT g):Fn Tryz.prog 15 [.agg (fU g),.lit (.int .i64 n)] (vJ (o1 g n)):=by
 have I:=RH g (W.RI _ hu)
 have kA:=fun af=>CG (g:=g) af hu
 have aV:=fun af=>CI (g:=g) (now:=g.b4+n) af
 unfold o1 vJ
 generalize mO g=f at *
 by_cases af:f=0
 ·subst af
  rw[if_pos rfl]
  obtain ⟨gh,dx,ud⟩:=kA rfl
  have l8:=dx.k
  have Hj:=gh.n
  by_cases hn:(1<=n/\n<=60)/\g.b4+n<=1099511627776
  ·rw[if_pos hn]
   have s6:=fun y ai=>aV rfl (by omega) (y:=y) ai
   skip
   have pZ:∀ y ∈ g.bb.map (fD (g.b4+n)),jQ 4194304 y:=fun y ai=>by
    obtain ⟨z,bh,rfl⟩:=List.mem_map.1 ai
    exact CH (dx.n z bh) (s6 z bh)
   have p0:iu (gq (kw g (g.b4+n)) (g.bb.map (fD (g.b4+n)))):=⟨gh.s,(by unfold gq kw;dsimp only;omega),gh.x,gh.t0,gh.t1,gh.t2,gh.t3,gh.h⟩
   have Hk:(g.bb.map (fD (g.b4+n))).length=g.bb.length:=List.length_map ..
   have nT:=CJ (B:=4194304) (o:=[]) (by omega) p0 ⟨by(unfold gq;dsimp only;omega),pZ⟩
   unfold pk at nT ⊢
   generalize bn:jB ((gq (kw g (g.b4+n)) (g.bb.map (fD (g.b4+n))))).b4 ((gq (kw g (g.b4+n)) (g.bb.map (fD (g.b4+n))))).bb (gq (kw g (g.b4+n)) (g.bb.map (fD (g.b4+n)))) [] []=cN at *
   obtain ⟨G,O,L⟩:=cN
   have dm:=P0 (B:=4194304) (gq (kw g (g.b4+n)) (g.bb.map (fD (g.b4+n)))) _ [] (by omega) p0 pZ rfl (by omega) (by simp) G O L bn
   generalize fA:fU (gq G L)=Z at dm ⊢
   unfold fU gq at fA
   dsimp only at fA
   subst fA
   have wX:=dx.n
   clear kA ud gh dx p0 nT pZ bn aV hu
   refine aU ae Tryz.func15 rfl ae ?_
   (repeat' first|(refine ar (I) (h:=?_))|(refine au (I) (h:=?_))|(refine ab ?_;((repeat' first|exact True.intro|refine R.mk ?_ ?_);all_goals intros))|fail "")
   all_goals try (exfalso;omega)
   refine b2 (fun k:Nat=>⟨[(2,.ptr 0 0 0 0),(4,.ptr 1 0 0 0),(5,.lit (.slice none 0 0)),(6,.lit (.int .i64 0)),(37,.ro (g.bb.map cQ)),(38,.lit (.int .i64 g.bb.length)),(39,.lit (.int .i64 k))],[(0,some (.box 28 [.lit (.int .u64 g.iQ),.lit (.int .i64 (g.b4+n)),.lit (.int .i64 g.Next),.ro ((jV (fD (g.b4+n)) g.bb k).map cQ),.lit (.bool g.c1.bO),.lit (.int .i64 g.c1.bM),.lit (.int .i64 g.c1.az),.lit (.bool g.c2.bO),.lit (.int .i64 g.c2.bM),.lit (.int .i64 g.c2.az),.lit (.bool g.c3.bO),.lit (.int .i64 g.c3.bM),.lit (.int .i64 g.c3.az),.lit (.bool g.c4.bO),.lit (.int .i64 g.c4.bM),.lit (.int .i64 g.c4.az),.lit (.bool g.jN),.lit (.int .i64 g.hR)])),(1,some (.box 28 [.lit (.int .u64 0),.lit (.int .i64 0),.lit (.int .i64 0),.lit (.slice none 0 0),.lit (.bool false),.lit (.int .i64 0),.lit (.int .i64 0),.lit (.bool false),.lit (.int .i64 0),.lit (.int .i64 0),.lit (.bool false),.lit (.int .i64 0),.lit (.int .i64 0),.lit (.bool false),.lit (.int .i64 0),.lit (.int .i64 0),.lit (.bool false),.lit (.int .i64 0)]))],2,Tryz.f15.ntmps⟩) (fun k=>k<=g.bb.length) (fun k=>g.bb.length - k) 0 (Nat.zero_le _) (by rw[JJ];(exact ax)) ?_
   intro k ag
   by_cases aJ:k<g.bb.length
   ·have ai:=wX _ (cY aJ)
    have J:=Qi (g.bb.getD k default).bX (g.b4+n) (sL ai.j ai.l (by omega))
    have RE:=s6 _ (cY aJ)
    have qT:=JL (fD (g.b4+n)) g.bb k ag
    have JO:=JM (fD (g.b4+n)) g.bb k aJ
    have oN:=JN (fD (g.b4+n)) g.bb k aJ
    have gB:=RB (gq (kw g (g.b4+n)) (jV (fD (g.b4+n)) g.bb k)) k (fD (g.b4+n) (g.bb.getD k default)) (by unfold gq;dsimp only;omega) (by unfold gq;dsimp only;omega)
    unfold wF gq kw at gB
    dsimp only at gB
    rw[oN] at gB
    generalize fA:cQ (fD (g.b4+n) (g.bb.getD k default))=Z at gB
    unfold cQ fD qc at fA
    generalize ku (g.bb.getD k default).bX (g.b4+n)=Ei at *
    obtain ⟨RF,RG⟩:=Ei
    unfold ub at J
    dsimp only at *
    subst fA
    clear wX s6 oN
    (repeat' first|(refine ar (J) (h:=?_))|(refine au (J) (h:=?_))|(refine ar (gB) (h:=?_))|(refine au (gB) (h:=?_))|(refine ab ?_;((repeat' first|exact True.intro|refine R.mk ?_ ?_);all_goals intros))|fail "")
    all_goals first
     | (refine ⟨k+1,?_,?_,?_⟩;rotate_left 2;(exact ax);(exact bN);(exact gI))
     | (exfalso;omega)
     | skip
   ·have ct:k=g.bb.length:=by omega
    subst ct
    rw[JK]
    (repeat' first|(refine ar (dm) (h:=?_))|(refine au (dm) (h:=?_))|(refine ab ?_;((repeat' first|exact True.intro|refine R.mk ?_ ?_);all_goals intros))|fail "")
    all_goals (try dsimp only at *)
    all_goals first
     | (exact bD)
     | (exfalso;omega)
     | skip
  ·rw[if_neg hn]
   clear kA ud gh dx hu aV
   refine aU ae Tryz.func15 rfl ae ?_
   (repeat' first|(refine ar (I) (h:=?_))|(refine au (I) (h:=?_))|(refine ab ?_;((repeat' first|exact True.intro|refine R.mk ?_ ?_);all_goals intros))|fail "")
   all_goals (try dsimp only at *)
   all_goals first
    | (exact bD)
    | (exfalso;omega)
    | skip
 ·rw[if_neg af]
  clear kA hu aV
  refine aU ae Tryz.func15 rfl ae ?_
  (repeat' first|(refine ar (I) (h:=?_))|(refine au (I) (h:=?_))|(refine ab ?_;((repeat' first|exact True.intro|refine R.mk ?_ ?_);all_goals intros))|fail "")
  all_goals (try dsimp only at *)
  all_goals first
   | (exact bD)
   | (exfalso;omega)
   | skip
end Go.Proofs.YtendheafcbickaaGreat
