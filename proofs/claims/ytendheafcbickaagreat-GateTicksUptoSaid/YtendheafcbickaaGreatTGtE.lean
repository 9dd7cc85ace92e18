
import Derived.Test.YtendheafcbickaaGreatTZip
import Derived.Test.YtendheafcbickaaGreatTGo
import Derived.Test.YtendheafcbickaaGreatTMg39
import Derived.Test.YtendheafcbickaaGreatTMg42
import Derived.Test.YtendheafcbickaaGreatTMg15
set_option linter.unusedVariables false
set_option linter.unusedSimpArgs false
set_option maxHeartbeats 16000000
namespace Go.Proofs.YtendheafcbickaaGreat
set_option maxRecDepth 100000
attribute [local irreducible] cq a8 bw GStep Fn cu bk cU
def Cf (g:cl) (N:V):List V:=[.lit (.int .u64 g.iQ),.lit (.int .i64 g.b4),.lit (.int .i64 g.Next),N,.lit (.bool g.c1.bO),.lit (.int .i64 g.c1.bM),.lit (.int .i64 g.c1.az),.lit (.bool g.c2.bO),.lit (.int .i64 g.c2.bM),.lit (.int .i64 g.c2.az),.lit (.bool g.c3.bO),.lit (.int .i64 g.c3.bM),.lit (.int .i64 g.c3.az),.lit (.bool g.c4.bO),.lit (.int .i64 g.c4.bM),.lit (.int .i64 g.c4.az),.lit (.bool g.jN),.lit (.int .i64 g.hR)]
def qW (g:cl) (N O:V):List V:=[.lit (.int .u64 g.iQ),.lit (.int .i64 g.b4),.lit (.int .i64 g.Next),N,.lit (.bool g.c1.bO),.lit (.int .i64 g.c1.bM),.lit (.int .i64 g.c1.az),.lit (.bool g.c2.bO),.lit (.int .i64 g.c2.bM),.lit (.int .i64 g.c2.az),.lit (.bool g.c3.bO),.lit (.int .i64 g.c3.bM),.lit (.int .i64 g.c3.az),.lit (.bool g.c4.bO),.lit (.int .i64 g.c4.bM),.lit (.int .i64 g.c4.az),.lit (.bool g.jN),.lit (.int .i64 g.hR),O]
theorem GX (g:cl) (hw:∀ y ∈ g.bb,hY y) (aq:g.bb.length<=1000000):cU Tryz.prog 36 [.agg (fU g)] [] 0 (.agg (Cf g (.own 0))) [(0,some (.row 90 29 (g.bb.map cQ)))] 1:=by
 unfold Cf
 refine gG ae Tryz.func36 rfl ae (by rfl) ?_
 (repeat' first|(refine ab ?_;((repeat' first|exact True.intro|refine R.mk ?_ ?_);all_goals intros))|fail "")
 refine b2 (fun k:Nat=>⟨[(1,.ptr 0 0 0 0),(2,.ptr 1 0 0 0),(7,.ro (g.bb.map cQ)),(8,.lit (.int .i64 g.bb.length)),(9,.lit (.int .i64 k)),(3,.own 2)],[(0,some (.box 28 [.lit (.int .u64 g.iQ),.lit (.int .i64 g.b4),.lit (.int .i64 g.Next),.ro (g.bb.map cQ),.lit (.bool g.c1.bO),.lit (.int .i64 g.c1.bM),.lit (.int .i64 g.c1.az),.lit (.bool g.c2.bO),.lit (.int .i64 g.c2.bM),.lit (.int .i64 g.c2.az),.lit (.bool g.c3.bO),.lit (.int .i64 g.c3.bM),.lit (.int .i64 g.c3.az),.lit (.bool g.c4.bO),.lit (.int .i64 g.c4.bM),.lit (.int .i64 g.c4.az),.lit (.bool g.jN),.lit (.int .i64 g.hR)])),(1,some (.box 28 [.lit (.int .u64 0),.lit (.int .i64 0),.lit (.int .i64 0),.lit (.slice none 0 0),.lit (.bool false),.lit (.int .i64 0),.lit (.int .i64 0),.lit (.bool false),.lit (.int .i64 0),.lit (.int .i64 0),.lit (.bool false),.lit (.int .i64 0),.lit (.int .i64 0),.lit (.bool false),.lit (.int .i64 0),.lit (.int .i64 0),.lit (.bool false),.lit (.int .i64 0)])),(2,some (.row 90 29 ((g.bb.take k).map cQ)))],3,Tryz.f36.ntmps⟩)
  (fun k=>k<=g.bb.length) (fun k=>g.bb.length - k) 0 (Nat.zero_le _) ((ic (n:=2) (t:=3) 90 29 rfl rfl rfl).trans gf) ?_
 intro k ag
 by_cases aJ:k<g.bb.length
 ·have hf:=hw _ (cY aJ)
  have I:Fn Tryz.prog 60 [.agg (e2 (g.bb.getD k default).bX)] (.agg (e2 (g.bb.getD k default).bX)):=GY (GZ (qX _ hf.2.2.2.2) [] rfl rfl trivial)
  clear hf hw
  (repeat' first|(refine ar (I) (h:=?_))|(refine au (I) (h:=?_))|(refine cx (r:=(g.bb.take (k+1)).map cQ) ?_ ?_ ?_ ?_ (h:=?_);(exact aM);(exact al);(exact an);(exact ao))|(refine cD (r:=(g.bb.take (k+1)).map cQ) ?_ ?_ ?_ ?_ (h:=?_);(exact aM);(exact al);(exact an);(exact ao))|(refine cE (r:=(g.bb.take (k+1)).map cQ) ?_ ?_ ?_ ?_ (h:=?_);(exact aM);(exact al);(exact an);(exact ao))|(refine cF (r:=(g.bb.take (k+1)).map cQ) ?_ ?_ ?_ ?_ (h:=?_);(exact aM);(exact al);(exact an);(exact ao))|(refine ab ?_;((repeat' first|exact True.intro|refine R.mk ?_ ?_);all_goals intros))|fail "")
  all_goals first
   | (refine ⟨k+1,?_,?_,?_⟩;rotate_left 2;(exact ax);(exact bN);(exact gI))
   | skip
 ·have ct:k=g.bb.length:=by omega
  subst ct
  rw[List.take_length]
  (repeat' first|(refine ab ?_;((repeat' first|exact True.intro|refine R.mk ?_ ?_);all_goals intros))|fail "")
  all_goals first
   | (exact fg)
   | skip
theorem NI (g:cl) (hw:∀ y ∈ g.bb,hY y) (aq:g.bb.length<=1000000):Fn Tryz.prog 36 [.agg (fU g)] (.agg (fU g)):=GY (GZ (GX g hw aq) [] rfl rfl trivial)
theorem NJ (g:cl) (out:List dG) (p:Int) (b:List UInt8) (N:List (List V)) (aj:iu g) (aw:0<=p/\p<=3) (aa:out.length<=1000000) (hb:b.length<=1000000) (ok:Bool) (G:cl) (bn:lz g p b=(G,ok)) :
  cU Tryz.prog 103 [.ptr 0 0 0 0,.lit (.int .i64 p),.ro (b.map aC)] [(0,some (.box 86 (qW g (.ro N) (.own 1)))),(1,some (.row 99 2 (out.map dc)))] 2
   (.lit (.bool ok)) [(0,some (.box 86 (qW G (.ro N) (.own 2)))),(2,some (.row 99 2 ((if ok=true then out++[⟨p,b⟩] else out).map dc)))] 3:=by
 unfold lz at bn
 have I:=fun i=>NK (fy g i) (b.length:Int) (Cg (aj.Ch i))
 clear aj
 unfold qW
 obtain ⟨sec,now,hC,notes,fH,fI,fJ,fK,rt,hD⟩:=g
 dsimp only at *
 rcases (show p=0\/p=1\/p=2\/p=3 by omega) with rfl|rfl|rfl|rfl
 ·have I:=I 0
  rw[show(0:Int).toNat=0 from rfl] at bn
  rw[show fy (⟨sec,now,hC,notes,fH,fI,fJ,fK,rt,hD⟩:cl) 0=fH from rfl] at I bn
  generalize kr fH (b.length:Int)=T at *
  obtain ⟨t,e⟩:=T
  dsimp only at I bn
  by_cases he:e=0
  ·subst he
   rw[if_pos rfl] at bn
   rw[show nP (⟨sec,now,hC,notes,fH,fI,fJ,fK,rt,hD⟩:cl) 0 t=(⟨sec,now,hC,notes,t,fI,fJ,fK,rt,hD⟩:cl) from rfl] at bn
   obtain ⟨rfl,rfl⟩:=Prod.mk.inj bn
   dsimp only
   rw[if_pos rfl]
   refine gG ae Tryz.func103 rfl ae (by rfl) ?_
   (repeat' first|refine bB (hq:=fq (n:=0) rfl rfl rfl rfl rfl (by omega) rfl) (h:=?_)|refine da (hq:=fun _=>fq (n:=0) rfl rfl rfl rfl rfl (by omega) rfl) (h:=?_)|(refine ar (I) (h:=?_))|(refine au (I) (h:=?_))|(refine yW 4 ?_;((repeat' first|exact True.intro|refine R.mk ?_ ?_);all_goals intros))|refine bB (h:=?_)|refine bB (hq:=eo rfl rfl rfl ew ey rfl rfl rfl rfl) (h:=?_)|refine da (h:=?_)|refine dJ (h:=?_)|refine ep (h:=?_)|refine ez (h:=?_)|refine eA (h:=?_)|refine eB (h:=?_)|refine eC (h:=?_)|refine eD (h:=?_)|(refine dS rfl ?_ (h:=?_);(exact bP))|(refine dT rfl ?_ (h:=?_);(exact bP))|fail "")
   all_goals try (exfalso;omega)
   refine iv ?_
   refine pN [(7,0)] ?_
   (repeat' first|refine bB (hq:=fq (n:=0) rfl rfl rfl rfl rfl (by omega) rfl) (h:=?_)|refine da (hq:=fun _=>fq (n:=0) rfl rfl rfl rfl rfl (by omega) rfl) (h:=?_)|(refine cx (r:=(out++[dG.mk 0 b]).map dc) ?_ ?_ ?_ ?_ (h:=?_);(exact aM);(exact al);(exact an);(exact ao))|(refine cD (r:=(out++[dG.mk 0 b]).map dc) ?_ ?_ ?_ ?_ (h:=?_);(exact aM);(exact al);(exact an);(exact ao))|(refine cE (r:=(out++[dG.mk 0 b]).map dc) ?_ ?_ ?_ ?_ (h:=?_);(exact aM);(exact al);(exact an);(exact ao))|(refine cF (r:=(out++[dG.mk 0 b]).map dc) ?_ ?_ ?_ ?_ (h:=?_);(exact aM);(exact al);(exact an);(exact ao))|(refine fc ?_;((repeat' first|exact True.intro|refine R.mk ?_ ?_);all_goals intros))|refine bB (h:=?_)|refine bB (hq:=eo rfl rfl rfl ew ey rfl rfl rfl rfl) (h:=?_)|refine da (h:=?_)|refine dJ (h:=?_)|refine ep (h:=?_)|refine ez (h:=?_)|refine eA (h:=?_)|refine eB (h:=?_)|refine eC (h:=?_)|refine eD (h:=?_)|(refine dS rfl ?_ (h:=?_);(exact bP))|(refine dT rfl ?_ (h:=?_);(exact bP))|fail "")
   all_goals first
    | (exact fg)
    | (exfalso;omega)
    | skip
  ·rw[if_neg he] at bn
   obtain ⟨rfl,rfl⟩:=Prod.mk.inj bn
   dsimp only
   rw[if_neg (by decide)]
   refine gG ae Tryz.func103 rfl ae (by rfl) ?_
   refine lZ (pO 1 (bG:=⟨[(0,.ptr 0 0 0 0),(1,.lit (.int .i64 0)),(2,.ro (b.map aC))],[(0,some (.box 86 [.lit (.int .u64 sec),.lit (.int .i64 now),.lit (.int .i64 hC),.ro N,.lit (.bool fH.bO),.lit (.int .i64 fH.bM),.lit (.int .i64 fH.az),.lit (.bool fI.bO),.lit (.int .i64 fI.bM),.lit (.int .i64 fI.az),.lit (.bool fJ.bO),.lit (.int .i64 fJ.bM),.lit (.int .i64 fJ.az),.lit (.bool fK.bO),.lit (.int .i64 fK.bM),.lit (.int .i64 fK.az),.lit (.bool rt),.lit (.int .i64 hD),.own 2])),(2,some (.row 99 2 (out.map dc)))],3,Tryz.f103.ntmps⟩)) ?_
   (repeat' first|refine bB (hq:=fq (n:=0) rfl rfl rfl rfl rfl (by omega) rfl) (h:=?_)|refine da (hq:=fun _=>fq (n:=0) rfl rfl rfl rfl rfl (by omega) rfl) (h:=?_)|(refine ar (I) (h:=?_))|(refine au (I) (h:=?_))|(refine fc ?_;((repeat' first|exact True.intro|refine R.mk ?_ ?_);all_goals intros))|refine bB (h:=?_)|refine bB (hq:=eo rfl rfl rfl ew ey rfl rfl rfl rfl) (h:=?_)|refine da (h:=?_)|refine dJ (h:=?_)|refine ep (h:=?_)|refine ez (h:=?_)|refine eA (h:=?_)|refine eB (h:=?_)|refine eC (h:=?_)|refine eD (h:=?_)|(refine dS rfl ?_ (h:=?_);(exact bP))|(refine dT rfl ?_ (h:=?_);(exact bP))|fail "")
   all_goals first
    | (exact fg)
    | (exfalso;omega)
    | skip
 ·have I:=I 1
  rw[show(1:Int).toNat=1 from rfl] at bn
  rw[show fy (⟨sec,now,hC,notes,fH,fI,fJ,fK,rt,hD⟩:cl) 1=fI from rfl] at I bn
  generalize kr fI (b.length:Int)=T at *
  obtain ⟨t,e⟩:=T
  dsimp only at I bn
  by_cases he:e=0
  ·subst he
   rw[if_pos rfl] at bn
   rw[show nP (⟨sec,now,hC,notes,fH,fI,fJ,fK,rt,hD⟩:cl) 1 t=(⟨sec,now,hC,notes,fH,t,fJ,fK,rt,hD⟩:cl) from rfl] at bn
   obtain ⟨rfl,rfl⟩:=Prod.mk.inj bn
   dsimp only
   rw[if_pos rfl]
   refine gG ae Tryz.func103 rfl ae (by rfl) ?_
   (repeat' first|refine bB (hq:=fq (n:=1) rfl rfl rfl rfl rfl (by omega) rfl) (h:=?_)|refine da (hq:=fun _=>fq (n:=1) rfl rfl rfl rfl rfl (by omega) rfl) (h:=?_)|(refine ar (I) (h:=?_))|(refine au (I) (h:=?_))|(refine yW 4 ?_;((repeat' first|exact True.intro|refine R.mk ?_ ?_);all_goals intros))|refine bB (h:=?_)|refine bB (hq:=eo rfl rfl rfl ew ey rfl rfl rfl rfl) (h:=?_)|refine da (h:=?_)|refine dJ (h:=?_)|refine ep (h:=?_)|refine ez (h:=?_)|refine eA (h:=?_)|refine eB (h:=?_)|refine eC (h:=?_)|refine eD (h:=?_)|(refine dS rfl ?_ (h:=?_);(exact bP))|(refine dT rfl ?_ (h:=?_);(exact bP))|fail "")
   all_goals try (exfalso;omega)
   refine iv ?_
   refine pN [(7,0)] ?_
   (repeat' first|refine bB (hq:=fq (n:=1) rfl rfl rfl rfl rfl (by omega) rfl) (h:=?_)|refine da (hq:=fun _=>fq (n:=1) rfl rfl rfl rfl rfl (by omega) rfl) (h:=?_)|(refine cx (r:=(out++[dG.mk 1 b]).map dc) ?_ ?_ ?_ ?_ (h:=?_);(exact aM);(exact al);(exact an);(exact ao))|(refine cD (r:=(out++[dG.mk 1 b]).map dc) ?_ ?_ ?_ ?_ (h:=?_);(exact aM);(exact al);(exact an);(exact ao))|(refine cE (r:=(out++[dG.mk 1 b]).map dc) ?_ ?_ ?_ ?_ (h:=?_);(exact aM);(exact al);(exact an);(exact ao))|(refine cF (r:=(out++[dG.mk 1 b]).map dc) ?_ ?_ ?_ ?_ (h:=?_);(exact aM);(exact al);(exact an);(exact ao))|(refine fc ?_;((repeat' first|exact True.intro|refine R.mk ?_ ?_);all_goals intros))|refine bB (h:=?_)|refine bB (hq:=eo rfl rfl rfl ew ey rfl rfl rfl rfl) (h:=?_)|refine da (h:=?_)|refine dJ (h:=?_)|refine ep (h:=?_)|refine ez (h:=?_)|refine eA (h:=?_)|refine eB (h:=?_)|refine eC (h:=?_)|refine eD (h:=?_)|(refine dS rfl ?_ (h:=?_);(exact bP))|(refine dT rfl ?_ (h:=?_);(exact bP))|fail "")
   all_goals first
    | (exact fg)
    | (exfalso;omega)
    | skip
  ·rw[if_neg he] at bn
   obtain ⟨rfl,rfl⟩:=Prod.mk.inj bn
   dsimp only
   rw[if_neg (by decide)]
   refine gG ae Tryz.func103 rfl ae (by rfl) ?_
   refine lZ (pO 1 (bG:=⟨[(0,.ptr 0 0 0 0),(1,.lit (.int .i64 1)),(2,.ro (b.map aC))],[(0,some (.box 86 [.lit (.int .u64 sec),.lit (.int .i64 now),.lit (.int .i64 hC),.ro N,.lit (.bool fH.bO),.lit (.int .i64 fH.bM),.lit (.int .i64 fH.az),.lit (.bool fI.bO),.lit (.int .i64 fI.bM),.lit (.int .i64 fI.az),.lit (.bool fJ.bO),.lit (.int .i64 fJ.bM),.lit (.int .i64 fJ.az),.lit (.bool fK.bO),.lit (.int .i64 fK.bM),.lit (.int .i64 fK.az),.lit (.bool rt),.lit (.int .i64 hD),.own 2])),(2,some (.row 99 2 (out.map dc)))],3,Tryz.f103.ntmps⟩)) ?_
   (repeat' first|refine bB (hq:=fq (n:=1) rfl rfl rfl rfl rfl (by omega) rfl) (h:=?_)|refine da (hq:=fun _=>fq (n:=1) rfl rfl rfl rfl rfl (by omega) rfl) (h:=?_)|(refine ar (I) (h:=?_))|(refine au (I) (h:=?_))|(refine fc ?_;((repeat' first|exact True.intro|refine R.mk ?_ ?_);all_goals intros))|refine bB (h:=?_)|refine bB (hq:=eo rfl rfl rfl ew ey rfl rfl rfl rfl) (h:=?_)|refine da (h:=?_)|refine dJ (h:=?_)|refine ep (h:=?_)|refine ez (h:=?_)|refine eA (h:=?_)|refine eB (h:=?_)|refine eC (h:=?_)|refine eD (h:=?_)|(refine dS rfl ?_ (h:=?_);(exact bP))|(refine dT rfl ?_ (h:=?_);(exact bP))|fail "")
   all_goals first
    | (exact fg)
    | (exfalso;omega)
    | skip
 ·have I:=I 2
  rw[show(2:Int).toNat=2 from rfl] at bn
  rw[show fy (⟨sec,now,hC,notes,fH,fI,fJ,fK,rt,hD⟩:cl) 2=fJ from rfl] at I bn
  generalize kr fJ (b.length:Int)=T at *
  obtain ⟨t,e⟩:=T
  dsimp only at I bn
  by_cases he:e=0
  ·subst he
   rw[if_pos rfl] at bn
   rw[show nP (⟨sec,now,hC,notes,fH,fI,fJ,fK,rt,hD⟩:cl) 2 t=(⟨sec,now,hC,notes,fH,fI,t,fK,rt,hD⟩:cl) from rfl] at bn
   obtain ⟨rfl,rfl⟩:=Prod.mk.inj bn
   dsimp only
   rw[if_pos rfl]
   refine gG ae Tryz.func103 rfl ae (by rfl) ?_
   (repeat' first|refine bB (hq:=fq (n:=2) rfl rfl rfl rfl rfl (by omega) rfl) (h:=?_)|refine da (hq:=fun _=>fq (n:=2) rfl rfl rfl rfl rfl (by omega) rfl) (h:=?_)|(refine ar (I) (h:=?_))|(refine au (I) (h:=?_))|(refine yW 4 ?_;((repeat' first|exact True.intro|refine R.mk ?_ ?_);all_goals intros))|refine bB (h:=?_)|refine bB (hq:=eo rfl rfl rfl ew ey rfl rfl rfl rfl) (h:=?_)|refine da (h:=?_)|refine dJ (h:=?_)|refine ep (h:=?_)|refine ez (h:=?_)|refine eA (h:=?_)|refine eB (h:=?_)|refine eC (h:=?_)|refine eD (h:=?_)|(refine dS rfl ?_ (h:=?_);(exact bP))|(refine dT rfl ?_ (h:=?_);(exact bP))|fail "")
   all_goals try (exfalso;omega)
   refine iv ?_
   refine pN [(7,0)] ?_
   (repeat' first|refine bB (hq:=fq (n:=2) rfl rfl rfl rfl rfl (by omega) rfl) (h:=?_)|refine da (hq:=fun _=>fq (n:=2) rfl rfl rfl rfl rfl (by omega) rfl) (h:=?_)|(refine cx (r:=(out++[dG.mk 2 b]).map dc) ?_ ?_ ?_ ?_ (h:=?_);(exact aM);(exact al);(exact an);(exact ao))|(refine cD (r:=(out++[dG.mk 2 b]).map dc) ?_ ?_ ?_ ?_ (h:=?_);(exact aM);(exact al);(exact an);(exact ao))|(refine cE (r:=(out++[dG.mk 2 b]).map dc) ?_ ?_ ?_ ?_ (h:=?_);(exact aM);(exact al);(exact an);(exact ao))|(refine cF (r:=(out++[dG.mk 2 b]).map dc) ?_ ?_ ?_ ?_ (h:=?_);(exact aM);(exact al);(exact an);(exact ao))|(refine fc ?_;((repeat' first|exact True.intro|refine R.mk ?_ ?_);all_goals intros))|refine bB (h:=?_)|refine bB (hq:=eo rfl rfl rfl ew ey rfl rfl rfl rfl) (h:=?_)|refine da (h:=?_)|refine dJ (h:=?_)|refine ep (h:=?_)|refine ez (h:=?_)|refine eA (h:=?_)|refine eB (h:=?_)|refine eC (h:=?_)|refine eD (h:=?_)|(refine dS rfl ?_ (h:=?_);(exact bP))|(refine dT rfl ?_ (h:=?_);(exact bP))|fail "")
   all_goals first
    | (exact fg)
    | (exfalso;omega)
    | skip
  ·rw[if_neg he] at bn
   obtain ⟨rfl,rfl⟩:=Prod.mk.inj bn
   dsimp only
   rw[if_neg (by decide)]
   refine gG ae Tryz.func103 rfl ae (by rfl) ?_
   refine lZ (pO 1 (bG:=⟨[(0,.ptr 0 0 0 0),(1,.lit (.int .i64 2)),(2,.ro (b.map aC))],[(0,some (.box 86 [.lit (.int .u64 sec),.lit (.int .i64 now),.lit (.int .i64 hC),.ro N,.lit (.bool fH.bO),.lit (.int .i64 fH.bM),.lit (.int .i64 fH.az),.lit (.bool fI.bO),.lit (.int .i64 fI.bM),.lit (.int .i64 fI.az),.lit (.bool fJ.bO),.lit (.int .i64 fJ.bM),.lit (.int .i64 fJ.az),.lit (.bool fK.bO),.lit (.int .i64 fK.bM),.lit (.int .i64 fK.az),.lit (.bool rt),.lit (.int .i64 hD),.own 2])),(2,some (.row 99 2 (out.map dc)))],3,Tryz.f103.ntmps⟩)) ?_
   (repeat' first|refine bB (hq:=fq (n:=2) rfl rfl rfl rfl rfl (by omega) rfl) (h:=?_)|refine da (hq:=fun _=>fq (n:=2) rfl rfl rfl rfl rfl (by omega) rfl) (h:=?_)|(refine ar (I) (h:=?_))|(refine au (I) (h:=?_))|(refine fc ?_;((repeat' first|exact True.intro|refine R.mk ?_ ?_);all_goals intros))|refine bB (h:=?_)|refine bB (hq:=eo rfl rfl rfl ew ey rfl rfl rfl rfl) (h:=?_)|refine da (h:=?_)|refine dJ (h:=?_)|refine ep (h:=?_)|refine ez (h:=?_)|refine eA (h:=?_)|refine eB (h:=?_)|refine eC (h:=?_)|refine eD (h:=?_)|(refine dS rfl ?_ (h:=?_);(exact bP))|(refine dT rfl ?_ (h:=?_);(exact bP))|fail "")
   all_goals first
    | (exact fg)
    | (exfalso;omega)
    | skip
 ·have I:=I 3
  rw[show(3:Int).toNat=3 from rfl] at bn
  rw[show fy (⟨sec,now,hC,notes,fH,fI,fJ,fK,rt,hD⟩:cl) 3=fK from rfl] at I bn
  generalize kr fK (b.length:Int)=T at *
  obtain ⟨t,e⟩:=T
  dsimp only at I bn
  by_cases he:e=0
  ·subst he
   rw[if_pos rfl] at bn
   rw[show nP (⟨sec,now,hC,notes,fH,fI,fJ,fK,rt,hD⟩:cl) 3 t=(⟨sec,now,hC,notes,fH,fI,fJ,t,rt,hD⟩:cl) from rfl] at bn
   obtain ⟨rfl,rfl⟩:=Prod.mk.inj bn
   dsimp only
   rw[if_pos rfl]
   refine gG ae Tryz.func103 rfl ae (by rfl) ?_
   (repeat' first|refine bB (hq:=fq (n:=3) rfl rfl rfl rfl rfl (by omega) rfl) (h:=?_)|refine da (hq:=fun _=>fq (n:=3) rfl rfl rfl rfl rfl (by omega) rfl) (h:=?_)|(refine ar (I) (h:=?_))|(refine au (I) (h:=?_))|(refine yW 4 ?_;((repeat' first|exact True.intro|refine R.mk ?_ ?_);all_goals intros))|refine bB (h:=?_)|refine bB (hq:=eo rfl rfl rfl ew ey rfl rfl rfl rfl) (h:=?_)|refine da (h:=?_)|refine dJ (h:=?_)|refine ep (h:=?_)|refine ez (h:=?_)|refine eA (h:=?_)|refine eB (h:=?_)|refine eC (h:=?_)|refine eD (h:=?_)|(refine dS rfl ?_ (h:=?_);(exact bP))|(refine dT rfl ?_ (h:=?_);(exact bP))|fail "")
   all_goals try (exfalso;omega)
   refine iv ?_
   refine pN [(7,0)] ?_
   (repeat' first|refine bB (hq:=fq (n:=3) rfl rfl rfl rfl rfl (by omega) rfl) (h:=?_)|refine da (hq:=fun _=>fq (n:=3) rfl rfl rfl rfl rfl (by omega) rfl) (h:=?_)|(refine cx (r:=(out++[dG.mk 3 b]).map dc) ?_ ?_ ?_ ?_ (h:=?_);(exact aM);(exact al);(exact an);(exact ao))|(refine cD (r:=(out++[dG.mk 3 b]).map dc) ?_ ?_ ?_ ?_ (h:=?_);(exact aM);(exact al);(exact an);(exact ao))|(refine cE (r:=(out++[dG.mk 3 b]).map dc) ?_ ?_ ?_ ?_ (h:=?_);(exact aM);(exact al);(exact an);(exact ao))|(refine cF (r:=(out++[dG.mk 3 b]).map dc) ?_ ?_ ?_ ?_ (h:=?_);(exact aM);(exact al);(exact an);(exact ao))|(refine fc ?_;((repeat' first|exact True.intro|refine R.mk ?_ ?_);all_goals intros))|refine bB (h:=?_)|refine bB (hq:=eo rfl rfl rfl ew ey rfl rfl rfl rfl) (h:=?_)|refine da (h:=?_)|refine dJ (h:=?_)|refine ep (h:=?_)|refine ez (h:=?_)|refine eA (h:=?_)|refine eB (h:=?_)|refine eC (h:=?_)|refine eD (h:=?_)|(refine dS rfl ?_ (h:=?_);(exact bP))|(refine dT rfl ?_ (h:=?_);(exact bP))|fail "")
   all_goals first
    | (exact fg)
    | (exfalso;omega)
    | skip
  ·rw[if_neg he] at bn
   obtain ⟨rfl,rfl⟩:=Prod.mk.inj bn
   dsimp only
   rw[if_neg (by decide)]
   refine gG ae Tryz.func103 rfl ae (by rfl) ?_
   refine lZ (pO 1 (bG:=⟨[(0,.ptr 0 0 0 0),(1,.lit (.int .i64 3)),(2,.ro (b.map aC))],[(0,some (.box 86 [.lit (.int .u64 sec),.lit (.int .i64 now),.lit (.int .i64 hC),.ro N,.lit (.bool fH.bO),.lit (.int .i64 fH.bM),.lit (.int .i64 fH.az),.lit (.bool fI.bO),.lit (.int .i64 fI.bM),.lit (.int .i64 fI.az),.lit (.bool fJ.bO),.lit (.int .i64 fJ.bM),.lit (.int .i64 fJ.az),.lit (.bool fK.bO),.lit (.int .i64 fK.bM),.lit (.int .i64 fK.az),.lit (.bool rt),.lit (.int .i64 hD),.own 2])),(2,some (.row 99 2 (out.map dc)))],3,Tryz.f103.ntmps⟩)) ?_
   (repeat' first|refine bB (hq:=fq (n:=3) rfl rfl rfl rfl rfl (by omega) rfl) (h:=?_)|refine da (hq:=fun _=>fq (n:=3) rfl rfl rfl rfl rfl (by omega) rfl) (h:=?_)|(refine ar (I) (h:=?_))|(refine au (I) (h:=?_))|(refine fc ?_;((repeat' first|exact True.intro|refine R.mk ?_ ?_);all_goals intros))|refine bB (h:=?_)|refine bB (hq:=eo rfl rfl rfl ew ey rfl rfl rfl rfl) (h:=?_)|refine da (h:=?_)|refine dJ (h:=?_)|refine ep (h:=?_)|refine ez (h:=?_)|refine eA (h:=?_)|refine eB (h:=?_)|refine eC (h:=?_)|refine eD (h:=?_)|(refine dS rfl ?_ (h:=?_);(exact bP))|(refine dT rfl ?_ (h:=?_);(exact bP))|fail "")
   all_goals first
    | (exact fg)
    | (exfalso;omega)
    | skip
theorem NL (g:cl) (out:List dG) (p:Int) (b:List UInt8) (aj:iu g) (aw:0<=p/\p<=3) (aa:out.length<=1000000) (hb:b.length<=1000000) (ok:Bool) (G:cl) (bn:lz g p b=(G,ok)) :
  Fn Tryz.prog 110 [.agg (fU g),.ro (out.map dc),.lit (.int .i64 p),.ro (b.map aC)] (.b0 [.agg (fU G),.ro ((if ok=true then out++[⟨p,b⟩] else out).map dc),.lit (.bool ok)]):=by
 unfold lz at bn
 have I:=fun i=>NM (fy g i) (b.length:Int) (Cg (aj.Ch i))
 clear aj
 obtain ⟨sec,now,hC,notes,fH,fI,fJ,fK,rt,hD⟩:=g
 rcases (show p=0\/p=1\/p=2\/p=3 by omega) with rfl|rfl|rfl|rfl
 ·have I:=I 0
  rw[show(0:Int).toNat=0 from rfl] at bn
  rw[show fy (⟨sec,now,hC,notes,fH,fI,fJ,fK,rt,hD⟩:cl) 0=fH from rfl] at I bn
  generalize kr fH (b.length:Int)=T at *
  obtain ⟨t,e⟩:=T
  dsimp only at I bn
  by_cases he:e=0
  ·subst he
   rw[if_pos rfl] at bn
   rw[show nP (⟨sec,now,hC,notes,fH,fI,fJ,fK,rt,hD⟩:cl) 0 t=(⟨sec,now,hC,notes,t,fI,fJ,fK,rt,hD⟩:cl) from rfl] at bn
   obtain ⟨rfl,rfl⟩:=Prod.mk.inj bn
   rw[if_pos rfl]
   refine aU ae Tryz.func110 rfl ae ?_
   (repeat' first|refine bB (hq:=fq (n:=0) rfl rfl rfl rfl rfl (by omega) rfl) (h:=?_)|refine da (hq:=fun _=>fq (n:=0) rfl rfl rfl rfl rfl (by omega) rfl) (h:=?_)|(refine ar (I) (h:=?_))|(refine au (I) (h:=?_))|(refine cx (r:=out.map dc) ?_ ?_ ?_ ?_ (h:=?_);(exact aM);(exact al);(exact an);(exact ao))|(refine cD (r:=out.map dc) ?_ ?_ ?_ ?_ (h:=?_);(exact aM);(exact al);(exact an);(exact ao))|(refine cE (r:=out.map dc) ?_ ?_ ?_ ?_ (h:=?_);(exact aM);(exact al);(exact an);(exact ao))|(refine cF (r:=out.map dc) ?_ ?_ ?_ ?_ (h:=?_);(exact aM);(exact al);(exact an);(exact ao))|(refine cx (r:=(out++[dG.mk 0 b]).map dc) ?_ ?_ ?_ ?_ (h:=?_);(exact aM);(exact al);(exact an);(exact ao))|(refine cD (r:=(out++[dG.mk 0 b]).map dc) ?_ ?_ ?_ ?_ (h:=?_);(exact aM);(exact al);(exact an);(exact ao))|(refine cE (r:=(out++[dG.mk 0 b]).map dc) ?_ ?_ ?_ ?_ (h:=?_);(exact aM);(exact al);(exact an);(exact ao))|(refine cF (r:=(out++[dG.mk 0 b]).map dc) ?_ ?_ ?_ ?_ (h:=?_);(exact aM);(exact al);(exact an);(exact ao))|(refine fc ?_;((repeat' first|exact True.intro|refine R.mk ?_ ?_);all_goals intros))|refine bB (h:=?_)|refine bB (hq:=eo rfl rfl rfl ew ey rfl rfl rfl rfl) (h:=?_)|refine da (h:=?_)|refine dJ (h:=?_)|refine ep (h:=?_)|refine ez (h:=?_)|refine eA (h:=?_)|refine eB (h:=?_)|refine eC (h:=?_)|refine eD (h:=?_)|(refine dS rfl ?_ (h:=?_);(exact bP))|(refine dT rfl ?_ (h:=?_);(exact bP))|fail "")
   all_goals first
    | (exact bD)
    | (exfalso;omega)
    | skip
  ·rw[if_neg he] at bn
   obtain ⟨rfl,rfl⟩:=Prod.mk.inj bn
   rw[if_neg (by decide)]
   refine aU ae Tryz.func110 rfl ae ?_
   (repeat' first|refine bB (hq:=fq (n:=0) rfl rfl rfl rfl rfl (by omega) rfl) (h:=?_)|refine da (hq:=fun _=>fq (n:=0) rfl rfl rfl rfl rfl (by omega) rfl) (h:=?_)|(refine ar (I) (h:=?_))|(refine au (I) (h:=?_))|(refine fc ?_;((repeat' first|exact True.intro|refine R.mk ?_ ?_);all_goals intros))|refine bB (h:=?_)|refine bB (hq:=eo rfl rfl rfl ew ey rfl rfl rfl rfl) (h:=?_)|refine da (h:=?_)|refine dJ (h:=?_)|refine ep (h:=?_)|refine ez (h:=?_)|refine eA (h:=?_)|refine eB (h:=?_)|refine eC (h:=?_)|refine eD (h:=?_)|(refine dS rfl ?_ (h:=?_);(exact bP))|(refine dT rfl ?_ (h:=?_);(exact bP))|fail "")
   all_goals first
    | (exact bD)
    | (exfalso;omega)
    | skip
 ·have I:=I 1
  rw[show(1:Int).toNat=1 from rfl] at bn
  rw[show fy (⟨sec,now,hC,notes,fH,fI,fJ,fK,rt,hD⟩:cl) 1=fI from rfl] at I bn
  generalize kr fI (b.length:Int)=T at *
  obtain ⟨t,e⟩:=T
  dsimp only at I bn
  by_cases he:e=0
  ·subst he
   rw[if_pos rfl] at bn
   rw[show nP (⟨sec,now,hC,notes,fH,fI,fJ,fK,rt,hD⟩:cl) 1 t=(⟨sec,now,hC,notes,fH,t,fJ,fK,rt,hD⟩:cl) from rfl] at bn
   obtain ⟨rfl,rfl⟩:=Prod.mk.inj bn
   rw[if_pos rfl]
   refine aU ae Tryz.func110 rfl ae ?_
   (repeat' first|refine bB (hq:=fq (n:=1) rfl rfl rfl rfl rfl (by omega) rfl) (h:=?_)|refine da (hq:=fun _=>fq (n:=1) rfl rfl rfl rfl rfl (by omega) rfl) (h:=?_)|(refine ar (I) (h:=?_))|(refine au (I) (h:=?_))|(refine cx (r:=out.map dc) ?_ ?_ ?_ ?_ (h:=?_);(exact aM);(exact al);(exact an);(exact ao))|(refine cD (r:=out.map dc) ?_ ?_ ?_ ?_ (h:=?_);(exact aM);(exact al);(exact an);(exact ao))|(refine cE (r:=out.map dc) ?_ ?_ ?_ ?_ (h:=?_);(exact aM);(exact al);(exact an);(exact ao))|(refine cF (r:=out.map dc) ?_ ?_ ?_ ?_ (h:=?_);(exact aM);(exact al);(exact an);(exact ao))|(refine cx (r:=(out++[dG.mk 1 b]).map dc) ?_ ?_ ?_ ?_ (h:=?_);(exact aM);(exact al);(exact an);(exact ao))|(refine cD (r:=(out++[dG.mk 1 b]).map dc) ?_ ?_ ?_ ?_ (h:=?_);(exact aM);(exact al);(exact an);(exact ao))|(refine cE (r:=(out++[dG.mk 1 b]).map dc) ?_ ?_ ?_ ?_ (h:=?_);(exact aM);(exact al);(exact an);(exact ao))|(refine cF (r:=(out++[dG.mk 1 b]).map dc) ?_ ?_ ?_ ?_ (h:=?_);(exact aM);(exact al);(exact an);(exact ao))|(refine fc ?_;((repeat' first|exact True.intro|refine R.mk ?_ ?_);all_goals intros))|refine bB (h:=?_)|refine bB (hq:=eo rfl rfl rfl ew ey rfl rfl rfl rfl) (h:=?_)|refine da (h:=?_)|refine dJ (h:=?_)|refine ep (h:=?_)|refine ez (h:=?_)|refine eA (h:=?_)|refine eB (h:=?_)|refine eC (h:=?_)|refine eD (h:=?_)|(refine dS rfl ?_ (h:=?_);(exact bP))|(refine dT rfl ?_ (h:=?_);(exact bP))|fail "")
   all_goals first
    | (exact bD)
    | (exfalso;omega)
    | skip
  ·rw[if_neg he] at bn
   obtain ⟨rfl,rfl⟩:=Prod.mk.inj bn
   rw[if_neg (by decide)]
   refine aU ae Tryz.func110 rfl ae ?_
   (repeat' first|refine bB (hq:=fq (n:=1) rfl rfl rfl rfl rfl (by omega) rfl) (h:=?_)|refine da (hq:=fun _=>fq (n:=1) rfl rfl rfl rfl rfl (by omega) rfl) (h:=?_)|(refine ar (I) (h:=?_))|(refine au (I) (h:=?_))|(refine fc ?_;((repeat' first|exact True.intro|refine R.mk ?_ ?_);all_goals intros))|refine bB (h:=?_)|refine bB (hq:=eo rfl rfl rfl ew ey rfl rfl rfl rfl) (h:=?_)|refine da (h:=?_)|refine dJ (h:=?_)|refine ep (h:=?_)|refine ez (h:=?_)|refine eA (h:=?_)|refine eB (h:=?_)|refine eC (h:=?_)|refine eD (h:=?_)|(refine dS rfl ?_ (h:=?_);(exact bP))|(refine dT rfl ?_ (h:=?_);(exact bP))|fail "")
   all_goals first
    | (exact bD)
    | (exfalso;omega)
    | skip
 ·have I:=I 2
  rw[show(2:Int).toNat=2 from rfl] at bn
  rw[show fy (⟨sec,now,hC,notes,fH,fI,fJ,fK,rt,hD⟩:cl) 2=fJ from rfl] at I bn
  generalize kr fJ (b.length:Int)=T at *
  obtain ⟨t,e⟩:=T
  dsimp only at I bn
  by_cases he:e=0
  ·subst he
   rw[if_pos rfl] at bn
   rw[show nP (⟨sec,now,hC,notes,fH,fI,fJ,fK,rt,hD⟩:cl) 2 t=(⟨sec,now,hC,notes,fH,fI,t,fK,rt,hD⟩:cl) from rfl] at bn
   obtain ⟨rfl,rfl⟩:=Prod.mk.inj bn
   rw[if_pos rfl]
   refine aU ae Tryz.func110 rfl ae ?_
   (repeat' first|refine bB (hq:=fq (n:=2) rfl rfl rfl rfl rfl (by omega) rfl) (h:=?_)|refine da (hq:=fun _=>fq (n:=2) rfl rfl rfl rfl rfl (by omega) rfl) (h:=?_)|(refine ar (I) (h:=?_))|(refine au (I) (h:=?_))|(refine cx (r:=out.map dc) ?_ ?_ ?_ ?_ (h:=?_);(exact aM);(exact al);(exact an);(exact ao))|(refine cD (r:=out.map dc) ?_ ?_ ?_ ?_ (h:=?_);(exact aM);(exact al);(exact an);(exact ao))|(refine cE (r:=out.map dc) ?_ ?_ ?_ ?_ (h:=?_);(exact aM);(exact al);(exact an);(exact ao))|(refine cF (r:=out.map dc) ?_ ?_ ?_ ?_ (h:=?_);(exact aM);(exact al);(exact an);(exact ao))|(refine cx (r:=(out++[dG.mk 2 b]).map dc) ?_ ?_ ?_ ?_ (h:=?_);(exact aM);(exact al);(exact an);(exact ao))|(refine cD (r:=(out++[dG.mk 2 b]).map dc) ?_ ?_ ?_ ?_ (h:=?_);(exact aM);(exact al);(exact an);(exact ao))|(refine cE (r:=(out++[dG.mk 2 b]).map dc) ?_ ?_ ?_ ?_ (h:=?_);(exact aM);(exact al);(exact an);(exact ao))|(refine cF (r:=(out++[dG.mk 2 b]).map dc) ?_ ?_ ?_ ?_ (h:=?_);(exact aM);(exact al);(exact an);(exact ao))|(refine fc ?_;((repeat' first|exact True.intro|refine R.mk ?_ ?_);all_goals intros))|refine bB (h:=?_)|refine bB (hq:=eo rfl rfl rfl ew ey rfl rfl rfl rfl) (h:=?_)|refine da (h:=?_)|refine dJ (h:=?_)|refine ep (h:=?_)|refine ez (h:=?_)|refine eA (h:=?_)|refine eB (h:=?_)|refine eC (h:=?_)|refine eD (h:=?_)|(refine dS rfl ?_ (h:=?_);(exact bP))|(refine dT rfl ?_ (h:=?_);(exact bP))|fail "")
   all_goals first
    | (exact bD)
    | (exfalso;omega)
    | skip
  ·rw[if_neg he] at bn
   obtain ⟨rfl,rfl⟩:=Prod.mk.inj bn
   rw[if_neg (by decide)]
   refine aU ae Tryz.func110 rfl ae ?_
   (repeat' first|refine bB (hq:=fq (n:=2) rfl rfl rfl rfl rfl (by omega) rfl) (h:=?_)|refine da (hq:=fun _=>fq (n:=2) rfl rfl rfl rfl rfl (by omega) rfl) (h:=?_)|(refine ar (I) (h:=?_))|(refine au (I) (h:=?_))|(refine fc ?_;((repeat' first|exact True.intro|refine R.mk ?_ ?_);all_goals intros))|refine bB (h:=?_)|refine bB (hq:=eo rfl rfl rfl ew ey rfl rfl rfl rfl) (h:=?_)|refine da (h:=?_)|refine dJ (h:=?_)|refine ep (h:=?_)|refine ez (h:=?_)|refine eA (h:=?_)|refine eB (h:=?_)|refine eC (h:=?_)|refine eD (h:=?_)|(refine dS rfl ?_ (h:=?_);(exact bP))|(refine dT rfl ?_ (h:=?_);(exact bP))|fail "")
   all_goals first
    | (exact bD)
    | (exfalso;omega)
    | skip
 ·have I:=I 3
  rw[show(3:Int).toNat=3 from rfl] at bn
  rw[show fy (⟨sec,now,hC,notes,fH,fI,fJ,fK,rt,hD⟩:cl) 3=fK from rfl] at I bn
  generalize kr fK (b.length:Int)=T at *
  obtain ⟨t,e⟩:=T
  dsimp only at I bn
  by_cases he:e=0
  ·subst he
   rw[if_pos rfl] at bn
   rw[show nP (⟨sec,now,hC,notes,fH,fI,fJ,fK,rt,hD⟩:cl) 3 t=(⟨sec,now,hC,notes,fH,fI,fJ,t,rt,hD⟩:cl) from rfl] at bn
   obtain ⟨rfl,rfl⟩:=Prod.mk.inj bn
   rw[if_pos rfl]
   refine aU ae Tryz.func110 rfl ae ?_
   (repeat' first|refine bB (hq:=fq (n:=3) rfl rfl rfl rfl rfl (by omega) rfl) (h:=?_)|refine da (hq:=fun _=>fq (n:=3) rfl rfl rfl rfl rfl (by omega) rfl) (h:=?_)|(refine ar (I) (h:=?_))|(refine au (I) (h:=?_))|(refine cx (r:=out.map dc) ?_ ?_ ?_ ?_ (h:=?_);(exact aM);(exact al);(exact an);(exact ao))|(refine cD (r:=out.map dc) ?_ ?_ ?_ ?_ (h:=?_);(exact aM);(exact al);(exact an);(exact ao))|(refine cE (r:=out.map dc) ?_ ?_ ?_ ?_ (h:=?_);(exact aM);(exact al);(exact an);(exact ao))|(refine cF (r:=out.map dc) ?_ ?_ ?_ ?_ (h:=?_);(exact aM);(exact al);(exact an);(exact ao))|(refine cx (r:=(out++[dG.mk 3 b]).map dc) ?_ ?_ ?_ ?_ (h:=?_);(exact aM);(exact al);(exact an);(exact ao))|(refine cD (r:=(out++[dG.mk 3 b]).map dc) ?_ ?_ ?_ ?_ (h:=?_);(exact aM);(exact al);(exact an);(exact ao))|(refine cE (r:=(out++[dG.mk 3 b]).map dc) ?_ ?_ ?_ ?_ (h:=?_);(exact aM);(exact al);(exact an);(exact ao))|(refine cF (r:=(out++[dG.mk 3 b]).map dc) ?_ ?_ ?_ ?_ (h:=?_);(exact aM);(exact al);(exact an);(exact ao))|(refine fc ?_;((repeat' first|exact True.intro|refine R.mk ?_ ?_);all_goals intros))|refine bB (h:=?_)|refine bB (hq:=eo rfl rfl rfl ew ey rfl rfl rfl rfl) (h:=?_)|refine da (h:=?_)|refine dJ (h:=?_)|refine ep (h:=?_)|refine ez (h:=?_)|refine eA (h:=?_)|refine eB (h:=?_)|refine eC (h:=?_)|refine eD (h:=?_)|(refine dS rfl ?_ (h:=?_);(exact bP))|(refine dT rfl ?_ (h:=?_);(exact bP))|fail "")
   all_goals first
    | (exact bD)
    | (exfalso;omega)
    | skip
  ·rw[if_neg he] at bn
   obtain ⟨rfl,rfl⟩:=Prod.mk.inj bn
   rw[if_neg (by decide)]
   refine aU ae Tryz.func110 rfl ae ?_
   (repeat' first|refine bB (hq:=fq (n:=3) rfl rfl rfl rfl rfl (by omega) rfl) (h:=?_)|refine da (hq:=fun _=>fq (n:=3) rfl rfl rfl rfl rfl (by omega) rfl) (h:=?_)|(refine ar (I) (h:=?_))|(refine au (I) (h:=?_))|(refine fc ?_;((repeat' first|exact True.intro|refine R.mk ?_ ?_);all_goals intros))|refine bB (h:=?_)|refine bB (hq:=eo rfl rfl rfl ew ey rfl rfl rfl rfl) (h:=?_)|refine da (h:=?_)|refine dJ (h:=?_)|refine ep (h:=?_)|refine ez (h:=?_)|refine eA (h:=?_)|refine eB (h:=?_)|refine eC (h:=?_)|refine eD (h:=?_)|(refine dS rfl ?_ (h:=?_);(exact bP))|(refine dT rfl ?_ (h:=?_);(exact bP))|fail "")
   all_goals first
    | (exact bD)
    | (exfalso;omega)
    | skip
end Go.Proofs.YtendheafcbickaaGreat
