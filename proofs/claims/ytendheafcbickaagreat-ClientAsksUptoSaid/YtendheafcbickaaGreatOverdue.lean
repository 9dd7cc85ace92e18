
import Derived.Test.YtendheafcbickaaGreatZip
import Derived.Test.YtendheafcbickaaGreatGo
import Derived.Test.YtendheafcbickaaGreatMg12
import Derived.Test.YtendheafcbickaaGreatMg20
set_option linter.unusedVariables false
set_option linter.unusedSimpArgs false
set_option linter.unusedVariables false
namespace Go.Proofs.YtendheafcbickaaGreat
set_option maxRecDepth 100000
attribute [local irreducible] Run RunL QStep GStep Fn Less PL FnM
def late (now age:Int) (p:DParcel):Bool:=decide (age≤now - p.Time)
theorem filter_t {l:List DParcel} {k:Nat} {q:DParcel→Bool} (h:k<l.length) (hq:q (l.getD k default)=true):(l.take (k+1)).filter q=(l.take k).filter q++[l.getD k default]:=by
  rw [take_snoc h,List.filter_append,show List.filter q [l.getD k default]=[l.getD k default] by simp only [List.filter,hq]]
theorem filter_f {l:List DParcel} {k:Nat} {q:DParcel→Bool} (h:k<l.length) (hq:q (l.getD k default)=false):(l.take (k+1)).filter q=(l.take k).filter q:=by
  rw [take_snoc h,List.filter_append,show List.filter q [l.getD k default]=[] by simp only [List.filter,hq],List.append_nil]
theorem overdue1_fnm (p:DParcel) (now age:Int) (h1:0≤now) (h2:now≤1099511627776) (h3:0≤p.Time) (h4:p.Time≤1099511627776) :
    FnM Tryz.prog 230 [.agg (encParcel p),.ptr 0 0 0 0,.ptr 1 0 0 0] [(0,some (.box 3 [.lit (.int .i64 now)])),(1,some (.box 3 [.lit (.int .i64 age)]))] 2 (.lit (.bool (late now age p))) [(0,some (.box 3 [.lit (.int .i64 now)])),(1,some (.box 3 [.lit (.int .i64 age)]))] 2:=by
  unfold late
  refine fnm_of_run (by kernel_rfl) Tryz.func230 rfl (by kernel_rfl) (by rfl) ?_
  (repeat' first|(refine go_ ?_;((repeat' first|exact True.intro|refine Two.mk ?_ ?_);all_goals intros))|fail "")
  all_goals (exact endmA_)
set_option maxHeartbeats 1000000 in
theorem splitO_fnm (l:List DParcel) (now age:Int) (hl:l.length≤24) (h1:0≤now) (h2:now≤1099511627776) (hp:∀ k,k<l.length→0≤(l.getD k default).Time∧(l.getD k default).Time≤1099511627776) :
    FnM Tryz.prog 229 [.own 2,.clo 230 [.ptr 0 0 0 0,.ptr 1 0 0 0]] [(0,some (.box 3 [.lit (.int .i64 now)])),(1,some (.box 3 [.lit (.int .i64 age)])),(2,some (.row 198 4 (l.map encParcel)))] 3
      (.tup [.ro ((l.filter (late now age)).map encParcel),.ro ((l.filter (fun p=>!late now age p)).map encParcel)]) [(0,some (.box 3 [.lit (.int .i64 now)])),(1,some (.box 3 [.lit (.int .i64 age)]))] 3:=by
  refine fnm_of_run (by kernel_rfl) Tryz.func229 rfl (by kernel_rfl) (by rfl) ?_
  (repeat' first|(refine go_ ?_;((repeat' first|exact True.intro|refine Two.mk ?_ ?_);all_goals intros))|fail "")
  refine r_for (fun k:Nat=>⟨[(1,.clo 230 [.ptr 0 0 0 0,.ptr 1 0 0 0]),(8,.own 2),(9,.lit (.int .i64 l.length)),(10,.lit (.int .i64 k)),(4,.own 3),(5,.own 4)],[(0,some (.box 3 [.lit (.int .i64 now)])),(1,some (.box 3 [.lit (.int .i64 age)])),(2,some (.row 198 4 (l.map encParcel))),(3,some (.row 198 4 (((l.take k).filter (late now age)).map encParcel))),(4,some (.row 198 4 (((l.take k).filter (fun p=>!late now age p)).map encParcel)))],5,Tryz.f229.ntmps⟩)
    (fun k=>k≤l.length) (fun k=>l.length - k) 0 (Nat.zero_le _) ((less_own (n:=3) (t:=4) 198 4 rfl rfl rfl).trans ((less_own (n:=4) (t:=5) 198 4 rfl rfl rfl).trans less_to)) ?_
  intro k hk
  have hb1:((l.take k).filter (late now age)).length≤24:=by have:=List.length_filter_le (late now age) (l.take k);rw [List.length_take] at this;omega
  have hb2:((l.take k).filter (fun p=>!late now age p)).length≤24:=by have:=List.length_filter_le (fun p=>!late now age p) (l.take k);rw [List.length_take] at this;omega
  by_cases hkn:k<l.length
  · have hpk:=hp k hkn
    have hc:=overdue1_fnm (l.getD k default) now age h1 h2 hpk.1 hpk.2
    cases hq:late now age (l.getD k default)
    · rw [hq] at hc
      have e1:=congrArg (List.map encParcel) (filter_f (q:=late now age) hkn hq).symm
      have e2:=filter_t (q:=fun p=>!late now age p) hkn (by rw [hq];rfl)
      (repeat' first|refine s_callV [0,1] (hc) (h:=?_)|(refine s_app (r:=((l.take (k+1)).filter (fun p=>!late now age p)).map encParcel) ?_ ?_ ?_ ?_ (h:=?_);(exact Z51_);(exact Z42_);(exact Z10_);(exact Z21_))|(refine s_app0R (r:=((l.take (k+1)).filter (fun p=>!late now age p)).map encParcel) ?_ ?_ ?_ ?_ (h:=?_);(exact Z51_);(exact Z42_);(exact Z10_);(exact Z21_))|(refine p_app (r:=((l.take (k+1)).filter (fun p=>!late now age p)).map encParcel) ?_ ?_ ?_ ?_ (h:=?_);(exact Z51_);(exact Z42_);(exact Z10_);(exact Z21_))|(refine go_ ?_;((repeat' first|exact True.intro|refine Two.mk ?_ ?_);all_goals intros))|fail "")
      all_goals (refine ⟨k+1,?_,?_,?_⟩;rotate_left 2;(exact lessA_);(exact Z69_);(exact Z67_))
    · rw [hq] at hc
      have e1:=filter_t (q:=late now age) hkn hq
      have e2:=congrArg (List.map encParcel) (filter_f (q:=fun p=>!late now age p) hkn (by rw [hq];rfl)).symm
      (repeat' first|refine s_callV [0,1] (hc) (h:=?_)|(refine s_app (r:=((l.take (k+1)).filter (late now age)).map encParcel) ?_ ?_ ?_ ?_ (h:=?_);(exact Z52_);(exact Z42_);(exact Z10_);(exact Z21_))|(refine s_app0R (r:=((l.take (k+1)).filter (late now age)).map encParcel) ?_ ?_ ?_ ?_ (h:=?_);(exact Z52_);(exact Z42_);(exact Z10_);(exact Z21_))|(refine p_app (r:=((l.take (k+1)).filter (late now age)).map encParcel) ?_ ?_ ?_ ?_ (h:=?_);(exact Z52_);(exact Z42_);(exact Z10_);(exact Z21_))|(refine go_ ?_;((repeat' first|exact True.intro|refine Two.mk ?_ ?_);all_goals intros))|fail "")
      all_goals (refine ⟨k+1,?_,?_,?_⟩;rotate_left 2;(exact lessA_);(exact Z69_);(exact Z67_))
  · (repeat' first|(refine go_ ?_;((repeat' first|exact True.intro|refine Two.mk ?_ ?_);all_goals intros))|fail "")
    rw [show l.take k=l from List.take_of_length_le (by omega)]
    all_goals (exact endmA_)
def ovBad (now age:Int):Prop:=¬ (0≤now∧now≤1099511627776∧0≤age∧age≤1099511627776)
instance (now age:Int):Decidable (ovBad now age):=inferInstanceAs (Decidable (¬ _))
noncomputable def spOver (s:DSpace) (now age:Int):DSpace×List DParcel×Int:=
  if spFlt s≠0 then (⟨0,[],0,[],[]⟩,[],spFlt s) else if ovBad now age then (⟨0,[],0,[],[]⟩,[],6)
  else (⟨s.Next,s.Sent.filter (fun p=>!late now age p),s.Top,s.Heard,s.Skip⟩,s.Sent.filter (late now age),0)
theorem sent_time {s:DSpace} (ho:spOk s):∀ k,k<s.Sent.length→0≤(s.Sent.getD k default).Time∧(s.Sent.getD k default).Time≤1099511627776:=fun k hk=>by
  have:=ho.2.1 k hk
  unfold sentQ at this
  exact ⟨this.2.2.1,this.2.2.2.1⟩
set_option maxHeartbeats 1000000 in
theorem overdue_fn (s:DSpace) (now age:Int) (hw:wfSpace s):Fn Tryz.prog 111 [.agg (encSpace s),.lit (.int .i64 now),.lit (.int .i64 age)] (.tup [.agg (encSpace (spOver s now age).1),.ro ((spOver s now age).2.1.map encParcel),.lit (.int .i64 (spOver s now age).2.2)]):=by
  have h1:=spaceCheck_fn s hw
  unfold spOver
  rcases spFlt_cases s with ⟨h0,ho⟩ | ⟨h0,ho⟩
  · rw [h0] at h1 ⊢
    rw [if_neg (by omega)]
    have hh:=ho.1.1
    unfold spHead at hh
    have h2:=fresh_fnm s hw
    by_cases c1:ovBad now age
    · rw [if_pos c1]
      unfold ovBad at c1
      refine fn_of_run (by kernel_rfl) Tryz.func111 rfl (by kernel_rfl) ?_
      (repeat' first|(refine s_call (h1) (h:=?_))|(refine p_call (h1) (h:=?_))|(refine go_ ?_;((repeat' first|exact True.intro|refine Two.mk ?_ ?_);all_goals intros))|fail "")
      all_goals (exact endwA_)
    · rw [if_neg c1]
      unfold ovBad at c1
      have h3:=splitO_fnm s.Sent now age hh.2.2.2.2.1 (by omega) (by omega) (sent_time ho)
      refine fn_of_run (by kernel_rfl) Tryz.func111 rfl (by kernel_rfl) ?_
      (repeat' first|(refine s_call (h1) (h:=?_))|(refine p_call (h1) (h:=?_))|(refine s_callM [] (h2) (h:=?_))|(refine s_callM [1,2,4] (h3) (h:=?_))|(refine p_callM [1,2,4] (h3) (h:=?_))|(refine go_ ?_;((repeat' first|exact True.intro|refine Two.mk ?_ ?_);all_goals intros))|fail "")
      all_goals (exact endwA_)
  · rw [h0] at h1 ⊢
    rw [if_pos (by omega)]
    refine fn_of_run (by kernel_rfl) Tryz.func111 rfl (by kernel_rfl) ?_
    (repeat' first|(refine s_call (h1) (h:=?_))|(refine p_call (h1) (h:=?_))|(refine go_ ?_;((repeat' first|exact True.intro|refine Two.mk ?_ ?_);all_goals intros))|fail "")
    all_goals (exact endwA_)
set_option maxHeartbeats 1000000 in
theorem overdueRef_fn (s:DSpace) (now age:Int) (hw:wfSpace s):Fn Tryz.prog 113 [.agg (encSpace s),.lit (.int .i64 now),.lit (.int .i64 age)] (.tup [.agg (encSpace (spOver s now age).1),.ro ((spOver s now age).2.1.map encParcel),.lit (.int .i64 (spOver s now age).2.2)]):=by
  have h1:=spaceFault_fn s hw
  unfold spOver
  rcases spFlt_cases s with ⟨h0,ho⟩ | ⟨h0,ho⟩
  · rw [h0] at h1 ⊢
    rw [if_neg (by omega)]
    have hh:=ho.1.1
    unfold spHead at hh
    by_cases c1:ovBad now age
    · rw [if_pos c1]
      unfold ovBad at c1
      refine fn_of_run (by kernel_rfl) Tryz.func113 rfl (by kernel_rfl) ?_
      (repeat' first|(refine s_call (h1) (h:=?_))|(refine p_call (h1) (h:=?_))|(refine s_dec (upTo_fn _ _) (ht:=?_) (hff:=?_) <;> intro _ <;> try (exfalso;omega))|(refine p_dec (upTo_fn _ _) (ht:=?_) (hff:=?_) <;> intro _ <;> try (exfalso;omega))|(refine go_ ?_;((repeat' first|exact True.intro|refine Two.mk ?_ ?_);all_goals intros))|fail "")
      all_goals (exact endwA_)
    · rw [if_neg c1]
      unfold ovBad at c1
      have hp:=sent_time ho
      refine fn_of_run (by kernel_rfl) Tryz.func113 rfl (by kernel_rfl) ?_
      (repeat' first|(refine s_call (h1) (h:=?_))|(refine p_call (h1) (h:=?_))|(refine s_dec (upTo_fn _ _) (ht:=?_) (hff:=?_) <;> intro _ <;> try (exfalso;omega))|(refine p_dec (upTo_fn _ _) (ht:=?_) (hff:=?_) <;> intro _ <;> try (exfalso;omega))|(refine go_ ?_;((repeat' first|exact True.intro|refine Two.mk ?_ ?_);all_goals intros))|fail "")
      refine r_for (fun k:Nat=>⟨[(3,.ptr 0 0 0 0),(6,.ptr 1 0 0 0),(1,.lit (.int .i64 now)),(2,.lit (.int .i64 age)),(30,.ro (s.Sent.map encParcel)),(31,.lit (.int .i64 s.Sent.length)),(32,.lit (.int .i64 k)),(10,.own 2),(11,.own 3)],[(0,some (.box 43 (encSpace s))),(1,some (.box 43 [.lit (.int .i64 0),.lit (.slice none 0 0),.lit (.int .i64 0),.lit (.slice none 0 0),.lit (.slice none 0 0)])),(2,some (.row 198 4 (((s.Sent.take k).filter (late now age)).map encParcel))),(3,some (.row 198 4 (((s.Sent.take k).filter (fun p=>!late now age p)).map encParcel)))],4,Tryz.f113.ntmps⟩)
        (fun k=>k≤s.Sent.length) (fun k=>s.Sent.length - k) 0 (Nat.zero_le _) ((less_own (n:=3) (t:=10) 198 4 rfl rfl rfl).trans ((less_own (n:=4) (t:=11) 198 4 rfl rfl rfl).trans less_to)) ?_
      intro k hk
      have hb1:((s.Sent.take k).filter (late now age)).length≤24:=by have:=List.length_filter_le (late now age) (s.Sent.take k);rw [List.length_take] at this;omega
      have hb2:((s.Sent.take k).filter (fun p=>!late now age p)).length≤24:=by have:=List.length_filter_le (fun p=>!late now age p) (s.Sent.take k);rw [List.length_take] at this;omega
      by_cases hkn:k<s.Sent.length
      · have hpk:=hp k hkn
        cases hq:late now age (s.Sent.getD k default)
        · have e1:=congrArg (List.map encParcel) (filter_f (q:=late now age) hkn hq).symm
          have e2:=filter_t (q:=fun p=>!late now age p) hkn (by rw [hq];rfl)
          unfold late at hq
          have hq:=of_decide_eq_false hq
          (repeat' first|(refine s_app (r:=((s.Sent.take (k+1)).filter (fun p=>!late now age p)).map encParcel) ?_ ?_ ?_ ?_ (h:=?_);(exact Z51_);(exact Z42_);(exact Z10_);(exact Z21_))|(refine s_app0R (r:=((s.Sent.take (k+1)).filter (fun p=>!late now age p)).map encParcel) ?_ ?_ ?_ ?_ (h:=?_);(exact Z51_);(exact Z42_);(exact Z10_);(exact Z21_))|(refine p_app (r:=((s.Sent.take (k+1)).filter (fun p=>!late now age p)).map encParcel) ?_ ?_ ?_ ?_ (h:=?_);(exact Z51_);(exact Z42_);(exact Z10_);(exact Z21_))|(refine go_ ?_;((repeat' first|exact True.intro|refine Two.mk ?_ ?_);all_goals intros))|fail "")
          all_goals (refine ⟨k+1,?_,?_,?_⟩;rotate_left 2;(exact lessA_);(exact Z69_);(exact Z67_))
        · have e1:=filter_t (q:=late now age) hkn hq
          have e2:=congrArg (List.map encParcel) (filter_f (q:=fun p=>!late now age p) hkn (by rw [hq];rfl)).symm
          unfold late at hq
          have hq:=of_decide_eq_true hq
          (repeat' first|(refine s_app (r:=((s.Sent.take (k+1)).filter (late now age)).map encParcel) ?_ ?_ ?_ ?_ (h:=?_);(exact Z52_);(exact Z42_);(exact Z10_);(exact Z21_))|(refine s_app0R (r:=((s.Sent.take (k+1)).filter (late now age)).map encParcel) ?_ ?_ ?_ ?_ (h:=?_);(exact Z52_);(exact Z42_);(exact Z10_);(exact Z21_))|(refine p_app (r:=((s.Sent.take (k+1)).filter (late now age)).map encParcel) ?_ ?_ ?_ ?_ (h:=?_);(exact Z52_);(exact Z42_);(exact Z10_);(exact Z21_))|(refine go_ ?_;((repeat' first|exact True.intro|refine Two.mk ?_ ?_);all_goals intros))|fail "")
          all_goals (refine ⟨k+1,?_,?_,?_⟩;rotate_left 2;(exact lessA_);(exact Z69_);(exact Z67_))
      · rw [show s.Sent.take k=s.Sent from List.take_of_length_le (by omega)]
        (repeat' first|(refine go_ ?_;((repeat' first|exact True.intro|refine Two.mk ?_ ?_);all_goals intros))|fail "")
        all_goals (exact endwA_)
  · rw [h0] at h1 ⊢
    rw [if_pos (by omega)]
    refine fn_of_run (by kernel_rfl) Tryz.func113 rfl (by kernel_rfl) ?_
    (repeat' first|(refine s_call (h1) (h:=?_))|(refine p_call (h1) (h:=?_))|(refine go_ ?_;((repeat' first|exact True.intro|refine Two.mk ?_ ?_);all_goals intros))|fail "")
    all_goals (exact endwA_)
theorem spOver_wf (s:DSpace) (now age:Int) (hw:wfSpace s):wfSpace (spOver s now age).1∧(spOver s now age).2.1.length * 48≤140737488355328 ∧ ∀ y,y ∈ (spOver s now age).2.1→wfParcel y:=by
  have hz:wfSpace ⟨0,[],0,[],[]⟩:=by unfold wfSpace I64;simp
  unfold spOver
  rcases spFlt_cases s with ⟨h0,ho⟩ | ⟨h0,ho⟩
  · rw [h0,if_neg (by omega)]
    split
    · exact ⟨hz,by simp,fun y hy=>by cases hy⟩
    · have hl1:=List.length_filter_le (fun p=>!late now age p) s.Sent
      have hl2:=List.length_filter_le (late now age) s.Sent
      have hl:=hw.2.1
      exact ⟨⟨hw.1,by dsimp only;omega,fun y hy=>hw.2.2.1 y ((List.mem_filter.1 hy).1),hw.2.2.2⟩,by dsimp only;omega,fun y hy=>hw.2.2.1 y ((List.mem_filter.1 hy).1)⟩
  · rw [h0,if_pos (by omega)];exact ⟨hz,by simp,fun y hy=>by cases hy⟩
end Go.Proofs.YtendheafcbickaaGreat
