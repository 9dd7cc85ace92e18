
import Derived.Test.YtendheafcbickaaGreatTZip
import Derived.Test.YtendheafcbickaaGreatTGo
import Derived.Test.YtendheafcbickaaGreatTMg11
import Derived.Test.YtendheafcbickaaGreatTMg20
set_option linter.unusedVariables false
set_option linter.unusedSimpArgs false
set_option maxHeartbeats 16000000
namespace Go.Proofs.YtendheafcbickaaGreat
set_option maxRecDepth 100000
attribute [local irreducible] cq a8 bw GStep Fn cu bk cU
def late (now cO:Int) (p:eN):Bool:=decide (cO<=now - p.Time)
theorem zg {l:List eN} {k:Nat} {q:eN->Bool} (h:k<l.length) (hq:q (l.getD k default)=true):(l.take (k+1)).filter q=(l.take k).filter q++[l.getD k default]:=by
 rw[hy h,List.filter_append,show List.filter q [l.getD k default]=[l.getD k default] by simp only[List.filter,hq]]
theorem zh {l:List eN} {k:Nat} {q:eN->Bool} (h:k<l.length) (hq:q (l.getD k default)=false):(l.take (k+1)).filter q=(l.take k).filter q:=by
 rw[hy h,List.filter_append,show List.filter q [l.getD k default]=[] by simp only[List.filter,hq],List.append_nil]
theorem OB (p:eN) (now cO:Int) (I:0<=now) (J:now<=1099511627776) (av:0<=p.Time) (bl:p.Time<=1099511627776) :
  cU Tryz.prog 230 [.agg (bY p),.ptr 0 0 0 0,.ptr 1 0 0 0] [(0,some (.box 3 [.lit (.int .i64 now)])),(1,some (.box 3 [.lit (.int .i64 cO)]))] 2 (.lit (.bool (late now cO p))) [(0,some (.box 3 [.lit (.int .i64 now)])),(1,some (.box 3 [.lit (.int .i64 cO)]))] 2:=by
 unfold late
 refine gG ae Tryz.func230 rfl ae (by rfl) ?_
 (repeat' first|(refine ab ?_;((repeat' first|exact True.intro|refine R.mk ?_ ?_);all_goals intros))|fail "")
 all_goals (exact fg)
theorem OC (l:List eN) (now cO:Int) (aq:l.length<=24) (I:0<=now) (J:now<=1099511627776) (aw:∀ k,k<l.length->0<=(l.getD k default).Time/\(l.getD k default).Time<=1099511627776) :
  cU Tryz.prog 229 [.own 2,.gi 230 [.ptr 0 0 0 0,.ptr 1 0 0 0]] [(0,some (.box 3 [.lit (.int .i64 now)])),(1,some (.box 3 [.lit (.int .i64 cO)])),(2,some (.row 198 4 (l.map bY)))] 3
   (.b0 [.ro ((l.filter (late now cO)).map bY),.ro ((l.filter (fun p=>!late now cO p)).map bY)]) [(0,some (.box 3 [.lit (.int .i64 now)])),(1,some (.box 3 [.lit (.int .i64 cO)]))] 3:=by
 refine gG ae Tryz.func229 rfl ae (by rfl) ?_
 (repeat' first|(refine ab ?_;((repeat' first|exact True.intro|refine R.mk ?_ ?_);all_goals intros))|fail "")
 refine b2 (fun k:Nat=>⟨[(1,.gi 230 [.ptr 0 0 0 0,.ptr 1 0 0 0]),(8,.own 2),(9,.lit (.int .i64 l.length)),(10,.lit (.int .i64 k)),(4,.own 3),(5,.own 4)],[(0,some (.box 3 [.lit (.int .i64 now)])),(1,some (.box 3 [.lit (.int .i64 cO)])),(2,some (.row 198 4 (l.map bY))),(3,some (.row 198 4 (((l.take k).filter (late now cO)).map bY))),(4,some (.row 198 4 (((l.take k).filter (fun p=>!late now cO p)).map bY)))],5,Tryz.f229.ntmps⟩)
  (fun k=>k<=l.length) (fun k=>l.length - k) 0 (Nat.zero_le _) ((ic (n:=3) (t:=4) 198 4 rfl rfl rfl).trans ((ic (n:=4) (t:=5) 198 4 rfl rfl rfl).trans du)) ?_
 intro k ag
 have sn:((l.take k).filter (late now cO)).length<=24:=by have:=List.length_filter_le (late now cO) (l.take k);rw[List.length_take] at this;omega
 have nk:((l.take k).filter (fun p=>!late now cO p)).length<=24:=by have:=List.length_filter_le (fun p=>!late now cO p) (l.take k);rw[List.length_take] at this;omega
 by_cases aJ:k<l.length
 ·have lh:=aw k aJ
  have hc:=OB (l.getD k default) now cO I J lh.1 lh.2
  cases hq:late now cO (l.getD k default)
  ·rw[hq] at hc
   have aH:=congrArg (List.map bY) (zh (q:=late now cO) aJ hq).symm
   have aN:=zg (q:=fun p=>!late now cO p) aJ (by rw[hq];rfl)
   (repeat' first|refine o3 [0,1] (hc) (h:=?_)|(refine cx (r:=((l.take (k+1)).filter (fun p=>!late now cO p)).map bY) ?_ ?_ ?_ ?_ (h:=?_);(exact q7);(exact al);(exact an);(exact ao))|(refine cD (r:=((l.take (k+1)).filter (fun p=>!late now cO p)).map bY) ?_ ?_ ?_ ?_ (h:=?_);(exact q7);(exact al);(exact an);(exact ao))|(refine cE (r:=((l.take (k+1)).filter (fun p=>!late now cO p)).map bY) ?_ ?_ ?_ ?_ (h:=?_);(exact q7);(exact al);(exact an);(exact ao))|(refine cF (r:=((l.take (k+1)).filter (fun p=>!late now cO p)).map bY) ?_ ?_ ?_ ?_ (h:=?_);(exact q7);(exact al);(exact an);(exact ao))|(refine ab ?_;((repeat' first|exact True.intro|refine R.mk ?_ ?_);all_goals intros))|fail "")
   all_goals (refine ⟨k+1,?_,?_,?_⟩;rotate_left 2;(exact ax);(exact bN);(exact gI))
  ·rw[hq] at hc
   have aH:=zg (q:=late now cO) aJ hq
   have aN:=congrArg (List.map bY) (zh (q:=fun p=>!late now cO p) aJ (by rw[hq];rfl)).symm
   (repeat' first|refine o3 [0,1] (hc) (h:=?_)|(refine cx (r:=((l.take (k+1)).filter (late now cO)).map bY) ?_ ?_ ?_ ?_ (h:=?_);(exact q8);(exact al);(exact an);(exact ao))|(refine cD (r:=((l.take (k+1)).filter (late now cO)).map bY) ?_ ?_ ?_ ?_ (h:=?_);(exact q8);(exact al);(exact an);(exact ao))|(refine cE (r:=((l.take (k+1)).filter (late now cO)).map bY) ?_ ?_ ?_ ?_ (h:=?_);(exact q8);(exact al);(exact an);(exact ao))|(refine cF (r:=((l.take (k+1)).filter (late now cO)).map bY) ?_ ?_ ?_ ?_ (h:=?_);(exact q8);(exact al);(exact an);(exact ao))|(refine ab ?_;((repeat' first|exact True.intro|refine R.mk ?_ ?_);all_goals intros))|fail "")
   all_goals (refine ⟨k+1,?_,?_,?_⟩;rotate_left 2;(exact ax);(exact bN);(exact gI))
 ·(repeat' first|(refine ab ?_;((repeat' first|exact True.intro|refine R.mk ?_ ?_);all_goals intros))|fail "")
  rw[show l.take k=l from List.take_of_length_le (by omega)]
  all_goals (exact fg)
def q9 (now cO:Int):Prop:=¬ (0<=now/\now<=1099511627776/\0<=cO/\cO<=1099511627776)
instance (now cO:Int):Decidable (q9 now cO):=inferInstanceAs (Decidable (¬ _))
noncomputable def hF (s:c8) (now cO:Int):c8×List eN×Int:=
 if hZ s≠0 then(⟨0,[],0,[],[]⟩,[],hZ s) else if q9 now cO then(⟨0,[],0,[],[]⟩,[],6)
 else(⟨s.Next,s.az.filter (fun p=>!late now cO p),s.dn,s.cg,s.b7⟩,s.az.filter (late now cO),0)
theorem Hs {s:c8} (aa:o4 s):∀ k,k<s.az.length->0<=(s.az.getD k default).Time/\(s.az.getD k default).Time<=1099511627776:=fun k ag=>by
 have:=aa.2.1 k ag
 unfold lj at this
 exact⟨this.2.2.1,this.2.2.2.1⟩
theorem N1 (s:c8) (now cO:Int) (hw:eF s):Fn Tryz.prog 111 [.agg (gC s),.lit (.int .i64 now),.lit (.int .i64 cO)] (.b0 [.agg (gC (hF s now cO).1),.ro ((hF s now cO).2.1.map bY),.lit (.int .i64 (hF s now cO).2.2)]):=by
 have I:=vB s hw
 unfold hF
 rcases lF s with⟨af,aa⟩ | ⟨af,aa⟩
 ·rw[af] at I ⊢
  rw[if_neg (by omega)]
  have hh:=aa.1.1
  unfold gN at hh
  have J:=CQ s hw
  by_cases aK:q9 now cO
  ·rw[if_pos aK]
   unfold q9 at aK
   refine aU ae Tryz.func111 rfl ae ?_
   (repeat' first|(refine ar (I) (h:=?_))|(refine au (I) (h:=?_))|(refine ab ?_;((repeat' first|exact True.intro|refine R.mk ?_ ?_);all_goals intros))|fail "")
   all_goals (exact bD)
  ·rw[if_neg aK]
   unfold q9 at aK
   have av:=OC s.az now cO hh.2.2.2.2.1 (by omega) (by omega) (Hs aa)
   refine aU ae Tryz.func111 rfl ae ?_
   (repeat' first|(refine ar (I) (h:=?_))|(refine au (I) (h:=?_))|(refine eL [] (J) (h:=?_))|(refine eM [] (J) (h:=?_))|(refine kc (J) (h:=?_))|(refine eL [1,2,4] (av) (h:=?_))|(refine eM [1,2,4] (av) (h:=?_))|(refine gU [1,2,4] (av) (h:=?_))|(refine ab ?_;((repeat' first|exact True.intro|refine R.mk ?_ ?_);all_goals intros))|fail "")
   all_goals (exact bD)
 ·rw[af] at I ⊢
  rw[if_pos (by omega)]
  refine aU ae Tryz.func111 rfl ae ?_
  (repeat' first|(refine ar (I) (h:=?_))|(refine au (I) (h:=?_))|(refine ab ?_;((repeat' first|exact True.intro|refine R.mk ?_ ?_);all_goals intros))|fail "")
  all_goals (exact bD)
theorem OD (s:c8) (now cO:Int) (hw:eF s):Fn Tryz.prog 113 [.agg (gC s),.lit (.int .i64 now),.lit (.int .i64 cO)] (.b0 [.agg (gC (hF s now cO).1),.ro ((hF s now cO).2.1.map bY),.lit (.int .i64 (hF s now cO).2.2)]):=by
 have I:=zi s hw
 unfold hF
 rcases lF s with⟨af,aa⟩ | ⟨af,aa⟩
 ·rw[af] at I ⊢
  rw[if_neg (by omega)]
  have hh:=aa.1.1
  unfold gN at hh
  by_cases aK:q9 now cO
  ·rw[if_pos aK]
   unfold q9 at aK
   refine aU ae Tryz.func113 rfl ae ?_
   (repeat' first|(refine ar (I) (h:=?_))|(refine au (I) (h:=?_))|(refine dM (cB _ _) (ht:=?_) (hff:=?_) <;> intro _ <;> try (exfalso;omega))|(refine dN (cB _ _) (ht:=?_) (hff:=?_) <;> intro _ <;> try (exfalso;omega))|(refine ab ?_;((repeat' first|exact True.intro|refine R.mk ?_ ?_);all_goals intros))|fail "")
   all_goals (exact bD)
  ·rw[if_neg aK]
   unfold q9 at aK
   have aw:=Hs aa
   refine aU ae Tryz.func113 rfl ae ?_
   (repeat' first|(refine ar (I) (h:=?_))|(refine au (I) (h:=?_))|(refine dM (cB _ _) (ht:=?_) (hff:=?_) <;> intro _ <;> try (exfalso;omega))|(refine dN (cB _ _) (ht:=?_) (hff:=?_) <;> intro _ <;> try (exfalso;omega))|(refine ab ?_;((repeat' first|exact True.intro|refine R.mk ?_ ?_);all_goals intros))|fail "")
   refine b2 (fun k:Nat=>⟨[(3,.ptr 0 0 0 0),(6,.ptr 1 0 0 0),(1,.lit (.int .i64 now)),(2,.lit (.int .i64 cO)),(30,.ro (s.az.map bY)),(31,.lit (.int .i64 s.az.length)),(32,.lit (.int .i64 k)),(10,.own 2),(11,.own 3)],[(0,some (.box 43 (gC s))),(1,some (.box 43 [.lit (.int .i64 0),.lit (.slice none 0 0),.lit (.int .i64 0),.lit (.slice none 0 0),.lit (.slice none 0 0)])),(2,some (.row 198 4 (((s.az.take k).filter (late now cO)).map bY))),(3,some (.row 198 4 (((s.az.take k).filter (fun p=>!late now cO p)).map bY)))],4,Tryz.f113.ntmps⟩)
    (fun k=>k<=s.az.length) (fun k=>s.az.length - k) 0 (Nat.zero_le _) ((ic (n:=3) (t:=10) 198 4 rfl rfl rfl).trans ((ic (n:=4) (t:=11) 198 4 rfl rfl rfl).trans du)) ?_
   intro k ag
   have sn:((s.az.take k).filter (late now cO)).length<=24:=by have:=List.length_filter_le (late now cO) (s.az.take k);rw[List.length_take] at this;omega
   have nk:((s.az.take k).filter (fun p=>!late now cO p)).length<=24:=by have:=List.length_filter_le (fun p=>!late now cO p) (s.az.take k);rw[List.length_take] at this;omega
   by_cases aJ:k<s.az.length
   ·have lh:=aw k aJ
    cases hq:late now cO (s.az.getD k default)
    ·have aH:=congrArg (List.map bY) (zh (q:=late now cO) aJ hq).symm
     have aN:=zg (q:=fun p=>!late now cO p) aJ (by rw[hq];rfl)
     unfold late at hq
     have hq:=of_decide_eq_false hq
     (repeat' first|(refine cx (r:=((s.az.take (k+1)).filter (fun p=>!late now cO p)).map bY) ?_ ?_ ?_ ?_ (h:=?_);(exact q7);(exact al);(exact an);(exact ao))|(refine cD (r:=((s.az.take (k+1)).filter (fun p=>!late now cO p)).map bY) ?_ ?_ ?_ ?_ (h:=?_);(exact q7);(exact al);(exact an);(exact ao))|(refine cE (r:=((s.az.take (k+1)).filter (fun p=>!late now cO p)).map bY) ?_ ?_ ?_ ?_ (h:=?_);(exact q7);(exact al);(exact an);(exact ao))|(refine cF (r:=((s.az.take (k+1)).filter (fun p=>!late now cO p)).map bY) ?_ ?_ ?_ ?_ (h:=?_);(exact q7);(exact al);(exact an);(exact ao))|(refine ab ?_;((repeat' first|exact True.intro|refine R.mk ?_ ?_);all_goals intros))|fail "")
     all_goals (refine ⟨k+1,?_,?_,?_⟩;rotate_left 2;(exact ax);(exact bN);(exact gI))
    ·have aH:=zg (q:=late now cO) aJ hq
     have aN:=congrArg (List.map bY) (zh (q:=fun p=>!late now cO p) aJ (by rw[hq];rfl)).symm
     unfold late at hq
     have hq:=of_decide_eq_true hq
     (repeat' first|(refine cx (r:=((s.az.take (k+1)).filter (late now cO)).map bY) ?_ ?_ ?_ ?_ (h:=?_);(exact q8);(exact al);(exact an);(exact ao))|(refine cD (r:=((s.az.take (k+1)).filter (late now cO)).map bY) ?_ ?_ ?_ ?_ (h:=?_);(exact q8);(exact al);(exact an);(exact ao))|(refine cE (r:=((s.az.take (k+1)).filter (late now cO)).map bY) ?_ ?_ ?_ ?_ (h:=?_);(exact q8);(exact al);(exact an);(exact ao))|(refine cF (r:=((s.az.take (k+1)).filter (late now cO)).map bY) ?_ ?_ ?_ ?_ (h:=?_);(exact q8);(exact al);(exact an);(exact ao))|(refine ab ?_;((repeat' first|exact True.intro|refine R.mk ?_ ?_);all_goals intros))|fail "")
     all_goals (refine ⟨k+1,?_,?_,?_⟩;rotate_left 2;(exact ax);(exact bN);(exact gI))
   ·rw[show s.az.take k=s.az from List.take_of_length_le (by omega)]
    (repeat' first|(refine ab ?_;((repeat' first|exact True.intro|refine R.mk ?_ ?_);all_goals intros))|fail "")
    all_goals (exact bD)
 ·rw[af] at I ⊢
  rw[if_pos (by omega)]
  refine aU ae Tryz.func113 rfl ae ?_
  (repeat' first|(refine ar (I) (h:=?_))|(refine au (I) (h:=?_))|(refine ab ?_;((repeat' first|exact True.intro|refine R.mk ?_ ?_);all_goals intros))|fail "")
  all_goals (exact bD)
theorem He (s:c8) (now cO:Int) (hw:eF s):eF (hF s now cO).1/\(hF s now cO).2.1.length * 48<=140737488355328 /\ ∀ y,y ∈ (hF s now cO).2.1->jg y:=by
 have bh:eF ⟨0,[],0,[],[]⟩:=by unfold eF aF;simp
 unfold hF
 rcases lF s with⟨af,aa⟩ | ⟨af,aa⟩
 ·rw[af,if_neg (by omega)]
  split
  ·exact⟨bh,by simp,fun y ai=>by cases ai⟩
  ·have OE:=List.length_filter_le (fun p=>!late now cO p) s.az
   have kh:=List.length_filter_le (late now cO) s.az
   have aq:=hw.2.1
   exact⟨⟨hw.1,by dsimp only;omega,fun y ai=>hw.2.2.1 y ((List.mem_filter.1 ai).1),hw.2.2.2⟩,by dsimp only;omega,fun y ai=>hw.2.2.1 y ((List.mem_filter.1 ai).1)⟩
 ·rw[af,if_pos (by omega)];exact⟨bh,by simp,fun y ai=>by cases ai⟩
end Go.Proofs.YtendheafcbickaaGreat
