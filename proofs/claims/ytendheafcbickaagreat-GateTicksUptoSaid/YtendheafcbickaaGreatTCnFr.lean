
import Derived.Test.YtendheafcbickaaGreatTZip
import Derived.Test.YtendheafcbickaaGreatTGo
import Derived.Test.YtendheafcbickaaGreatTMg06
import Derived.Test.YtendheafcbickaaGreatProg
set_option linter.unusedVariables false
set_option linter.unusedSimpArgs false
set_option maxHeartbeats 16000000
namespace Go.Proofs.YtendheafcbickaaGreat
set_option maxRecDepth 100000
attribute [local irreducible] cq a8 bw GStep Fn cu bk cU
theorem IK (l:List bc) (hw:∀ y,y ∈ l->dC y) (aq:l.length * 88<=140737488351232):cU Tryz.prog 62 [.ro (l.map aW)] [] 0 (.own 0) [(0,some (.row 111 7 (l.map aW)))] 1:=by
 refine gG ae Tryz.func62 rfl ae (by rfl) ?_
 (repeat' first|(refine ab ?_;((repeat' first|exact True.intro|refine R.mk ?_ ?_);all_goals intros))|fail "")
 refine b2 (fun k:Nat=>⟨[(6,.ro (l.map aW)),(7,.lit (.int .i64 l.length)),(8,.lit (.int .i64 k)),(3,.own 0)],[(0,some (.row 111 7 ((l.take k).map aW)))],1,Tryz.f62.ntmps⟩)
  (fun k=>k<=l.length) (fun k=>l.length - k) 0 (Nat.zero_le _) ((ic (n:=0) (t:=3) 111 7 rfl rfl rfl).trans du) ?_
 intro k ag
 by_cases aJ:k<l.length
 ·have hf:=hw _ (cY aJ)
  have hr:=hf.2.2.2.2.1
  have hd:=hf.2.2.2.2.2.2
  (repeat' first|(refine cx (r:=(l.take (k+1)).map aW) ?_ ?_ ?_ ?_ (h:=?_);(exact aM);(exact al);(exact an);(exact ao))|(refine cD (r:=(l.take (k+1)).map aW) ?_ ?_ ?_ ?_ (h:=?_);(exact aM);(exact al);(exact an);(exact ao))|(refine cE (r:=(l.take (k+1)).map aW) ?_ ?_ ?_ ?_ (h:=?_);(exact aM);(exact al);(exact an);(exact ao))|(refine cF (r:=(l.take (k+1)).map aW) ?_ ?_ ?_ ?_ (h:=?_);(exact aM);(exact al);(exact an);(exact ao))|(refine kO (r:=(l.getD k default).bi.map aD) ?_ ?_ ?_ ?_ (h:=?_);(exact aM);(exact al);(exact an);(exact ao))|(refine kP (r:=(l.getD k default).bi.map aD) ?_ ?_ ?_ ?_ (h:=?_);(exact aM);(exact al);(exact an);(exact ao))|(refine kQ (r:=(l.getD k default).bi.map aD) ?_ ?_ ?_ ?_ (h:=?_);(exact aM);(exact al);(exact an);(exact ao))|(refine kR (r:=(l.getD k default).bi.map aD) ?_ ?_ ?_ ?_ (h:=?_);(exact aM);(exact al);(exact an);(exact ao))|(refine kO (r:=(l.getD k default).Data.map aC) ?_ ?_ ?_ ?_ (h:=?_);(exact aM);(exact al);(exact an);(exact ao))|(refine kP (r:=(l.getD k default).Data.map aC) ?_ ?_ ?_ ?_ (h:=?_);(exact aM);(exact al);(exact an);(exact ao))|(refine kQ (r:=(l.getD k default).Data.map aC) ?_ ?_ ?_ ?_ (h:=?_);(exact aM);(exact al);(exact an);(exact ao))|(refine kR (r:=(l.getD k default).Data.map aC) ?_ ?_ ?_ ?_ (h:=?_);(exact aM);(exact al);(exact an);(exact ao))|(refine ab ?_;((repeat' first|exact True.intro|refine R.mk ?_ ?_);all_goals intros))|fail "")
  all_goals (refine ⟨k+1,?_,?_,?_⟩;rotate_left 2;(exact ax);(exact bN);(exact gI))
 ·have ct:k=l.length:=by omega
  subst ct
  rw[List.take_length]
  (repeat' first|(refine ab ?_;((repeat' first|exact True.intro|refine R.mk ?_ ?_);all_goals intros))|fail "")
  all_goals (exact fg)
theorem Aj (l:List bc) (hw:∀ y,y ∈ l->dC y) (aq:l.length * 88<=140737488351232):Fn Tryz.prog 62 [.ro (l.map aW)] (.ro (l.map aW)):=by
 refine aU ae Tryz.func62 rfl ae ?_
 (repeat' first|(refine ab ?_;((repeat' first|exact True.intro|refine R.mk ?_ ?_);all_goals intros))|fail "")
 refine b2 (fun k:Nat=>⟨[(6,.ro (l.map aW)),(7,.lit (.int .i64 l.length)),(8,.lit (.int .i64 k)),(3,.own 0)],[(0,some (.row 111 7 ((l.take k).map aW)))],1,Tryz.f62.ntmps⟩)
  (fun k=>k<=l.length) (fun k=>l.length - k) 0 (Nat.zero_le _) ((ic (n:=0) (t:=3) 111 7 rfl rfl rfl).trans du) ?_
 intro k ag
 by_cases aJ:k<l.length
 ·have hf:=hw _ (cY aJ)
  have hr:=hf.2.2.2.2.1
  have hd:=hf.2.2.2.2.2.2
  (repeat' first|(refine cx (r:=(l.take (k+1)).map aW) ?_ ?_ ?_ ?_ (h:=?_);(exact aM);(exact al);(exact an);(exact ao))|(refine cD (r:=(l.take (k+1)).map aW) ?_ ?_ ?_ ?_ (h:=?_);(exact aM);(exact al);(exact an);(exact ao))|(refine cE (r:=(l.take (k+1)).map aW) ?_ ?_ ?_ ?_ (h:=?_);(exact aM);(exact al);(exact an);(exact ao))|(refine cF (r:=(l.take (k+1)).map aW) ?_ ?_ ?_ ?_ (h:=?_);(exact aM);(exact al);(exact an);(exact ao))|(refine kO (r:=(l.getD k default).bi.map aD) ?_ ?_ ?_ ?_ (h:=?_);(exact aM);(exact al);(exact an);(exact ao))|(refine kP (r:=(l.getD k default).bi.map aD) ?_ ?_ ?_ ?_ (h:=?_);(exact aM);(exact al);(exact an);(exact ao))|(refine kQ (r:=(l.getD k default).bi.map aD) ?_ ?_ ?_ ?_ (h:=?_);(exact aM);(exact al);(exact an);(exact ao))|(refine kR (r:=(l.getD k default).bi.map aD) ?_ ?_ ?_ ?_ (h:=?_);(exact aM);(exact al);(exact an);(exact ao))|(refine kO (r:=(l.getD k default).Data.map aC) ?_ ?_ ?_ ?_ (h:=?_);(exact aM);(exact al);(exact an);(exact ao))|(refine kP (r:=(l.getD k default).Data.map aC) ?_ ?_ ?_ ?_ (h:=?_);(exact aM);(exact al);(exact an);(exact ao))|(refine kQ (r:=(l.getD k default).Data.map aC) ?_ ?_ ?_ ?_ (h:=?_);(exact aM);(exact al);(exact an);(exact ao))|(refine kR (r:=(l.getD k default).Data.map aC) ?_ ?_ ?_ ?_ (h:=?_);(exact aM);(exact al);(exact an);(exact ao))|(refine ab ?_;((repeat' first|exact True.intro|refine R.mk ?_ ?_);all_goals intros))|fail "")
  all_goals (refine ⟨k+1,?_,?_,?_⟩;rotate_left 2;(exact ax);(exact bN);(exact gI))
 ·(repeat' first|(refine ab ?_;((repeat' first|exact True.intro|refine R.mk ?_ ?_);all_goals intros))|fail "")
  all_goals (refine bt (hr:=?_);rw[List.take_of_length_le (by omega)])
theorem Vt (l:List eN) (hw:∀ y,y ∈ l->jg y) (aq:l.length * 48<=140737488351232):Fn Tryz.prog 125 [.ro (l.map bY)] (.ro (l.map bY)):=by
 refine aU ae Tryz.func125 rfl ae ?_
 (repeat' first|(refine ab ?_;((repeat' first|exact True.intro|refine R.mk ?_ ?_);all_goals intros))|fail "")
 refine b2 (fun k:Nat=>⟨[(6,.ro (l.map bY)),(7,.lit (.int .i64 l.length)),(8,.lit (.int .i64 k)),(3,.own 0)],[(0,some (.row 198 4 ((l.take k).map bY)))],1,Tryz.f125.ntmps⟩)
  (fun k=>k<=l.length) (fun k=>l.length - k) 0 (Nat.zero_le _) ((ic (n:=0) (t:=3) 198 4 rfl rfl rfl).trans du) ?_
 intro k ag
 by_cases aJ:k<l.length
 ·have hf:=hw _ (cY aJ)
  have I:=Aj (l.getD k default).Frames hf.2.2.2.2 hf.2.2.2.1
  (repeat' first|(refine ar (I) (h:=?_))|(refine au (I) (h:=?_))|(refine cx (r:=(l.take (k+1)).map bY) ?_ ?_ ?_ ?_ (h:=?_);(exact aM);(exact al);(exact an);(exact ao))|(refine cD (r:=(l.take (k+1)).map bY) ?_ ?_ ?_ ?_ (h:=?_);(exact aM);(exact al);(exact an);(exact ao))|(refine cE (r:=(l.take (k+1)).map bY) ?_ ?_ ?_ ?_ (h:=?_);(exact aM);(exact al);(exact an);(exact ao))|(refine cF (r:=(l.take (k+1)).map bY) ?_ ?_ ?_ ?_ (h:=?_);(exact aM);(exact al);(exact an);(exact ao))|(refine ab ?_;((repeat' first|exact True.intro|refine R.mk ?_ ?_);all_goals intros))|fail "")
  all_goals (refine ⟨k+1,?_,?_,?_⟩;rotate_left 2;(exact ax);(exact bN);(exact gI))
 ·(repeat' first|(refine ab ?_;((repeat' first|exact True.intro|refine R.mk ?_ ?_);all_goals intros))|fail "")
  all_goals (refine bt (hr:=?_);rw[List.take_of_length_le (by omega)])
theorem Vu (l:List dH) (hw:∀ y,y ∈ l->jA y) (aq:l.length * 32<=140737488351232):Fn Tryz.prog 126 [.ro (l.map kx)] (.ro (l.map kx)):=by
 refine aU ae Tryz.func126 rfl ae ?_
 (repeat' first|(refine ab ?_;((repeat' first|exact True.intro|refine R.mk ?_ ?_);all_goals intros))|fail "")
 refine b2 (fun k:Nat=>⟨[(6,.ro (l.map kx)),(7,.lit (.int .i64 l.length)),(8,.lit (.int .i64 k)),(3,.own 0)],[(0,some (.row 235 2 ((l.take k).map kx)))],1,Tryz.f126.ntmps⟩)
  (fun k=>k<=l.length) (fun k=>l.length - k) 0 (Nat.zero_le _) ((ic (n:=0) (t:=3) 235 2 rfl rfl rfl).trans du) ?_
 intro k ag
 by_cases aJ:k<l.length
 ·have hf:=hw _ (cY aJ)
  have hd:=hf.2
  (repeat' first|(refine cx (r:=(l.take (k+1)).map kx) ?_ ?_ ?_ ?_ (h:=?_);(exact aM);(exact al);(exact an);(exact ao))|(refine cD (r:=(l.take (k+1)).map kx) ?_ ?_ ?_ ?_ (h:=?_);(exact aM);(exact al);(exact an);(exact ao))|(refine cE (r:=(l.take (k+1)).map kx) ?_ ?_ ?_ ?_ (h:=?_);(exact aM);(exact al);(exact an);(exact ao))|(refine cF (r:=(l.take (k+1)).map kx) ?_ ?_ ?_ ?_ (h:=?_);(exact aM);(exact al);(exact an);(exact ao))|(refine kO (r:=(l.getD k default).Data.map aC) ?_ ?_ ?_ ?_ (h:=?_);(exact aM);(exact al);(exact an);(exact ao))|(refine kP (r:=(l.getD k default).Data.map aC) ?_ ?_ ?_ ?_ (h:=?_);(exact aM);(exact al);(exact an);(exact ao))|(refine kQ (r:=(l.getD k default).Data.map aC) ?_ ?_ ?_ ?_ (h:=?_);(exact aM);(exact al);(exact an);(exact ao))|(refine kR (r:=(l.getD k default).Data.map aC) ?_ ?_ ?_ ?_ (h:=?_);(exact aM);(exact al);(exact an);(exact ao))|(refine ab ?_;((repeat' first|exact True.intro|refine R.mk ?_ ?_);all_goals intros))|fail "")
  all_goals first
   | (refine ⟨k+1,?_,?_,?_⟩;rotate_left 2;(exact ax);(exact bN);(exact gI))
   | skip
 ·(repeat' first|(refine ab ?_;((repeat' first|exact True.intro|refine R.mk ?_ ?_);all_goals intros))|fail "")
  all_goals (refine bt (hr:=?_);rw[List.take_of_length_le (by omega)])
def gp (c:a6) (L Q:V):List V:=[.lit (.bool c.Client),.lit (.int .i64 c.bf.Next),.ro (c.bf.az.map bY),.lit (.int .i64 c.bf.dn),.ro (c.bf.cg.map aD),.ro (c.bf.b7.map encI),.lit (.int .i64 c.e8.cK),.lit (.int .i64 c.e8.eE),.lit (.int .i64 c.e8.dW),.lit (.int .i64 c.e8.Since),.lit (.int .i64 c.fL.Max),.lit (.int .i64 c.fL.cm),.lit (.int .i64 c.fQ.Max),.lit (.int .i64 c.fQ.cm),.lit (.int .i64 c.ks),.lit (.int .i64 c.kK),.lit (.int .i64 c.gJ),L,.lit (.bool c.ke),Q,.lit (.int .i64 c.jO),.lit (.int .i64 c.kL),.lit (.bool c.iz),.lit (.int .i64 c.Code)]
theorem qX (c:a6) (hw:ej c):cU Tryz.prog 60 [.agg (e2 c)] [] 0 (.agg (gp c (.own 0) (.own 1))) [(0,some (.row 134 16 (c.aO.map cv))),(1,some (.row 111 7 (c.Queue.map aW)))] 2:=by
 obtain ⟨w0,cy,cR,w3,ef,dU,eS,fV,h0,ju,jf,jv,jw,k9⟩:=hw
 have I:=Vt c.bf.az w0.2.2.1 w0.2.1
 have iA:=w0.2.2.2.2.1
 have iw:=w0.2.2.2.2.2.2.1
 have J:=IK c.Queue jf ju
 clear w0 cy cR w3 ef dU eS ju jf jv jw k9
 unfold gp
 refine gG ae Tryz.func60 rfl ae (by rfl) ?_
 (repeat' first|(refine ar (I) (h:=?_))|(refine au (I) (h:=?_))|(refine kO (r:=c.bf.cg.map aD) ?_ ?_ ?_ ?_ (h:=?_);(exact aM);(exact al);(exact an);(exact ao))|(refine kP (r:=c.bf.cg.map aD) ?_ ?_ ?_ ?_ (h:=?_);(exact aM);(exact al);(exact an);(exact ao))|(refine kQ (r:=c.bf.cg.map aD) ?_ ?_ ?_ ?_ (h:=?_);(exact aM);(exact al);(exact an);(exact ao))|(refine kR (r:=c.bf.cg.map aD) ?_ ?_ ?_ ?_ (h:=?_);(exact aM);(exact al);(exact an);(exact ao))|(refine kO (r:=c.bf.b7.map encI) ?_ ?_ ?_ ?_ (h:=?_);(exact aM);(exact al);(exact an);(exact ao))|(refine kP (r:=c.bf.b7.map encI) ?_ ?_ ?_ ?_ (h:=?_);(exact aM);(exact al);(exact an);(exact ao))|(refine kQ (r:=c.bf.b7.map encI) ?_ ?_ ?_ ?_ (h:=?_);(exact aM);(exact al);(exact an);(exact ao))|(refine kR (r:=c.bf.b7.map encI) ?_ ?_ ?_ ?_ (h:=?_);(exact aM);(exact al);(exact an);(exact ao))|(refine eL [] (J) (h:=?_))|(refine eM [] (J) (h:=?_))|(refine kc (J) (h:=?_))|(refine ab ?_;((repeat' first|exact True.intro|refine R.mk ?_ ?_);all_goals intros))|fail "")
 refine b2 (fun k:Nat=>⟨[(1,.ptr 0 0 0 0),(2,.ptr 1 0 0 0),(31,.ro (c.aO.map cv)),(32,.lit (.int .i64 c.aO.length)),(33,.lit (.int .i64 k)),(3,.own 3)],[(0,some (.box 51 [.lit (.bool c.Client),.lit (.int .i64 c.bf.Next),.ro (c.bf.az.map bY),.lit (.int .i64 c.bf.dn),.ro (c.bf.cg.map aD),.ro (c.bf.b7.map encI),.lit (.int .i64 c.e8.cK),.lit (.int .i64 c.e8.eE),.lit (.int .i64 c.e8.dW),.lit (.int .i64 c.e8.Since),.lit (.int .i64 c.fL.Max),.lit (.int .i64 c.fL.cm),.lit (.int .i64 c.fQ.Max),.lit (.int .i64 c.fQ.cm),.lit (.int .i64 c.ks),.lit (.int .i64 c.kK),.lit (.int .i64 c.gJ),.ro (c.aO.map cv),.lit (.bool c.ke),.own 2,.lit (.int .i64 c.jO),.lit (.int .i64 c.kL),.lit (.bool c.iz),.lit (.int .i64 c.Code)])),(1,some (.box 51 [.lit (.bool false),.lit (.int .i64 0),.lit (.slice none 0 0),.lit (.int .i64 0),.lit (.slice none 0 0),.lit (.slice none 0 0),.lit (.int .i64 0),.lit (.int .i64 0),.lit (.int .i64 0),.lit (.int .i64 0),.lit (.int .i64 0),.lit (.int .i64 0),.lit (.int .i64 0),.lit (.int .i64 0),.lit (.int .i64 0),.lit (.int .i64 0),.lit (.int .i64 0),.lit (.slice none 0 0),.lit (.bool false),.lit (.slice none 0 0),.lit (.int .i64 0),.lit (.int .i64 0),.lit (.bool false),.lit (.int .i64 0)])),(2,some (.row 111 7 (c.Queue.map aW))),(3,some (.row 134 16 ((c.aO.take k).map cv)))],4,Tryz.f60.ntmps⟩)
  (fun k=>k<=c.aO.length) (fun k=>c.aO.length - k) 0 (Nat.zero_le _) ((ic (n:=3) (t:=3) 134 16 rfl rfl rfl).trans gf) ?_
 intro k ag
 by_cases aJ:k<c.aO.length
 ·have hf:=h0 _ (cY aJ)
  have av:=Vu (c.aO.getD k default).In.cI hf.2.1.2.2.1 hf.2.1.2.1
  have aT:=hf.2.2.1
  have a1:=hf.2.2.2.1
  have bz:=hf.2.2.2.2.2.2.1
  have cW:=hf.2.2.2.2.2.2.2.2.1
  (repeat' first|(refine ar (av) (h:=?_))|(refine au (av) (h:=?_))|(refine cx (r:=(c.aO.take (k+1)).map cv) ?_ ?_ ?_ ?_ (h:=?_);(exact aM);(exact al);(exact an);(exact ao))|(refine cD (r:=(c.aO.take (k+1)).map cv) ?_ ?_ ?_ ?_ (h:=?_);(exact aM);(exact al);(exact an);(exact ao))|(refine cE (r:=(c.aO.take (k+1)).map cv) ?_ ?_ ?_ ?_ (h:=?_);(exact aM);(exact al);(exact an);(exact ao))|(refine cF (r:=(c.aO.take (k+1)).map cv) ?_ ?_ ?_ ?_ (h:=?_);(exact aM);(exact al);(exact an);(exact ao))|(refine kO (r:=(c.aO.getD k default).Read.map aC) ?_ ?_ ?_ ?_ (h:=?_);(exact aM);(exact al);(exact an);(exact ao))|(refine kP (r:=(c.aO.getD k default).Read.map aC) ?_ ?_ ?_ ?_ (h:=?_);(exact aM);(exact al);(exact an);(exact ao))|(refine kQ (r:=(c.aO.getD k default).Read.map aC) ?_ ?_ ?_ ?_ (h:=?_);(exact aM);(exact al);(exact an);(exact ao))|(refine kR (r:=(c.aO.getD k default).Read.map aC) ?_ ?_ ?_ ?_ (h:=?_);(exact aM);(exact al);(exact an);(exact ao))|(refine kO (r:=(c.aO.getD k default).Out.Data.map aC) ?_ ?_ ?_ ?_ (h:=?_);(exact aM);(exact al);(exact an);(exact ao))|(refine kP (r:=(c.aO.getD k default).Out.Data.map aC) ?_ ?_ ?_ ?_ (h:=?_);(exact aM);(exact al);(exact an);(exact ao))|(refine kQ (r:=(c.aO.getD k default).Out.Data.map aC) ?_ ?_ ?_ ?_ (h:=?_);(exact aM);(exact al);(exact an);(exact ao))|(refine kR (r:=(c.aO.getD k default).Out.Data.map aC) ?_ ?_ ?_ ?_ (h:=?_);(exact aM);(exact al);(exact an);(exact ao))|(refine kO (r:=(c.aO.getD k default).Out.cp.map aD) ?_ ?_ ?_ ?_ (h:=?_);(exact aM);(exact al);(exact an);(exact ao))|(refine kP (r:=(c.aO.getD k default).Out.cp.map aD) ?_ ?_ ?_ ?_ (h:=?_);(exact aM);(exact al);(exact an);(exact ao))|(refine kQ (r:=(c.aO.getD k default).Out.cp.map aD) ?_ ?_ ?_ ?_ (h:=?_);(exact aM);(exact al);(exact an);(exact ao))|(refine kR (r:=(c.aO.getD k default).Out.cp.map aD) ?_ ?_ ?_ ?_ (h:=?_);(exact aM);(exact al);(exact an);(exact ao))|(refine kO (r:=(c.aO.getD k default).Out.dF.map aD) ?_ ?_ ?_ ?_ (h:=?_);(exact aM);(exact al);(exact an);(exact ao))|(refine kP (r:=(c.aO.getD k default).Out.dF.map aD) ?_ ?_ ?_ ?_ (h:=?_);(exact aM);(exact al);(exact an);(exact ao))|(refine kQ (r:=(c.aO.getD k default).Out.dF.map aD) ?_ ?_ ?_ ?_ (h:=?_);(exact aM);(exact al);(exact an);(exact ao))|(refine kR (r:=(c.aO.getD k default).Out.dF.map aD) ?_ ?_ ?_ ?_ (h:=?_);(exact aM);(exact al);(exact an);(exact ao))|(refine ab ?_;((repeat' first|exact True.intro|refine R.mk ?_ ?_);all_goals intros))|fail "")
  all_goals first
   | (refine ⟨k+1,?_,?_,?_⟩;rotate_left 2;(exact ax);(exact bN);(exact gI))
   | skip
 ·have ct:k=c.aO.length:=by omega
  subst ct
  rw[List.take_length]
  (repeat' first|(refine ab ?_;((repeat' first|exact True.intro|refine R.mk ?_ ?_);all_goals intros))|fail "")
  all_goals first
   | (exact fg)
   | skip
end Go.Proofs.YtendheafcbickaaGreat
