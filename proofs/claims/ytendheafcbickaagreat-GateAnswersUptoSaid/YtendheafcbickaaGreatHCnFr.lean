
import Derived.Test.YtendheafcbickaaGreatHZip
import Derived.Test.YtendheafcbickaaGreatHGo
import Derived.Test.YtendheafcbickaaGreatHMg06
import Derived.Test.YtendheafcbickaaGreatProg
set_option linter.unusedVariables false
set_option linter.unusedSimpArgs false
set_option linter.unusedVariables false
namespace Go.Proofs.YtendheafcbickaaGreat
set_option maxRecDepth 100000
attribute [local irreducible] Run RunL QStep GStep Fn Less PL FnM
set_option maxHeartbeats 1000000 in
theorem cframes_fnm (l:List DFrame) (hw:∀ y,y ∈ l→wfFrame y) (hl:l.length * 88≤140737488351232):FnM Tryz.prog 62 [.ro (l.map encFrame)] [] 0 (.own 0) [(0,some (.row 111 7 (l.map encFrame)))] 1:=by
  refine fnm_of_run (by kernel_rfl) Tryz.func62 rfl (by kernel_rfl) (by rfl) ?_
  (repeat' first|(refine go_ ?_;((repeat' first|exact True.intro|refine Two.mk ?_ ?_);all_goals intros))|fail "")
  refine r_for (fun k:Nat=>⟨[(6,.ro (l.map encFrame)),(7,.lit (.int .i64 l.length)),(8,.lit (.int .i64 k)),(3,.own 0)],[(0,some (.row 111 7 ((l.take k).map encFrame)))],1,Tryz.f62.ntmps⟩)
    (fun k=>k≤l.length) (fun k=>l.length - k) 0 (Nat.zero_le _) ((less_own (n:=0) (t:=3) 111 7 rfl rfl rfl).trans less_to) ?_
  intro k hk
  by_cases hkn:k<l.length
  · have hf:=hw _ (getD_mem hkn)
    have hr:=hf.2.2.2.2.1
    have hd:=hf.2.2.2.2.2.2
    (repeat' first|(refine s_app (r:=(l.take (k+1)).map encFrame) ?_ ?_ ?_ ?_ (h:=?_);(exact Z65_);(exact Z47_);(exact Z12_);(exact Z22_))|(refine s_app0R (r:=(l.take (k+1)).map encFrame) ?_ ?_ ?_ ?_ (h:=?_);(exact Z65_);(exact Z47_);(exact Z12_);(exact Z22_))|(refine p_app (r:=(l.take (k+1)).map encFrame) ?_ ?_ ?_ ?_ (h:=?_);(exact Z65_);(exact Z47_);(exact Z12_);(exact Z22_))|(refine s_appro (r:=(l.getD k default).Ranges.map encRange) ?_ ?_ ?_ ?_ (h:=?_);(exact Z65_);(exact Z47_);(exact Z12_);(exact Z22_))|(refine p_appro (r:=(l.getD k default).Ranges.map encRange) ?_ ?_ ?_ ?_ (h:=?_);(exact Z65_);(exact Z47_);(exact Z12_);(exact Z22_))|(refine s_appro (r:=(l.getD k default).Data.map encB) ?_ ?_ ?_ ?_ (h:=?_);(exact Z65_);(exact Z47_);(exact Z12_);(exact Z22_))|(refine p_appro (r:=(l.getD k default).Data.map encB) ?_ ?_ ?_ ?_ (h:=?_);(exact Z65_);(exact Z47_);(exact Z12_);(exact Z22_))|(refine go_ ?_;((repeat' first|exact True.intro|refine Two.mk ?_ ?_);all_goals intros))|fail "")
    all_goals (refine ⟨k+1,?_,?_,?_⟩;rotate_left 2;(exact lessA_);(exact Z69_);(exact Z67_))
  · have hkl:k=l.length:=by omega
    subst hkl
    rw [List.take_length]
    (repeat' first|(refine go_ ?_;((repeat' first|exact True.intro|refine Two.mk ?_ ?_);all_goals intros))|fail "")
    all_goals (exact endmA_)
set_option maxHeartbeats 1000000 in
theorem cframes_fn (l:List DFrame) (hw:∀ y,y ∈ l→wfFrame y) (hl:l.length * 88≤140737488351232):Fn Tryz.prog 62 [.ro (l.map encFrame)] (.ro (l.map encFrame)):=by
  refine fn_of_run (by kernel_rfl) Tryz.func62 rfl (by kernel_rfl) ?_
  (repeat' first|(refine go_ ?_;((repeat' first|exact True.intro|refine Two.mk ?_ ?_);all_goals intros))|fail "")
  refine r_for (fun k:Nat=>⟨[(6,.ro (l.map encFrame)),(7,.lit (.int .i64 l.length)),(8,.lit (.int .i64 k)),(3,.own 0)],[(0,some (.row 111 7 ((l.take k).map encFrame)))],1,Tryz.f62.ntmps⟩)
    (fun k=>k≤l.length) (fun k=>l.length - k) 0 (Nat.zero_le _) ((less_own (n:=0) (t:=3) 111 7 rfl rfl rfl).trans less_to) ?_
  intro k hk
  by_cases hkn:k<l.length
  · have hf:=hw _ (getD_mem hkn)
    have hr:=hf.2.2.2.2.1
    have hd:=hf.2.2.2.2.2.2
    (repeat' first|(refine s_app (r:=(l.take (k+1)).map encFrame) ?_ ?_ ?_ ?_ (h:=?_);(exact Z65_);(exact Z47_);(exact Z12_);(exact Z22_))|(refine s_app0R (r:=(l.take (k+1)).map encFrame) ?_ ?_ ?_ ?_ (h:=?_);(exact Z65_);(exact Z47_);(exact Z12_);(exact Z22_))|(refine p_app (r:=(l.take (k+1)).map encFrame) ?_ ?_ ?_ ?_ (h:=?_);(exact Z65_);(exact Z47_);(exact Z12_);(exact Z22_))|(refine s_appro (r:=(l.getD k default).Ranges.map encRange) ?_ ?_ ?_ ?_ (h:=?_);(exact Z65_);(exact Z47_);(exact Z12_);(exact Z22_))|(refine p_appro (r:=(l.getD k default).Ranges.map encRange) ?_ ?_ ?_ ?_ (h:=?_);(exact Z65_);(exact Z47_);(exact Z12_);(exact Z22_))|(refine s_appro (r:=(l.getD k default).Data.map encB) ?_ ?_ ?_ ?_ (h:=?_);(exact Z65_);(exact Z47_);(exact Z12_);(exact Z22_))|(refine p_appro (r:=(l.getD k default).Data.map encB) ?_ ?_ ?_ ?_ (h:=?_);(exact Z65_);(exact Z47_);(exact Z12_);(exact Z22_))|(refine go_ ?_;((repeat' first|exact True.intro|refine Two.mk ?_ ?_);all_goals intros))|fail "")
    all_goals (refine ⟨k+1,?_,?_,?_⟩;rotate_left 2;(exact lessA_);(exact Z69_);(exact Z67_))
  · (repeat' first|(refine go_ ?_;((repeat' first|exact True.intro|refine Two.mk ?_ ?_);all_goals intros))|fail "")
    all_goals (refine ends_ (hr:=?_);rw [List.take_of_length_le (by omega)])
set_option maxHeartbeats 1000000 in
theorem cparcels_fn (l:List DParcel) (hw:∀ y,y ∈ l→wfParcel y) (hl:l.length * 48≤140737488351232):Fn Tryz.prog 125 [.ro (l.map encParcel)] (.ro (l.map encParcel)):=by
  refine fn_of_run (by kernel_rfl) Tryz.func125 rfl (by kernel_rfl) ?_
  (repeat' first|(refine go_ ?_;((repeat' first|exact True.intro|refine Two.mk ?_ ?_);all_goals intros))|fail "")
  refine r_for (fun k:Nat=>⟨[(6,.ro (l.map encParcel)),(7,.lit (.int .i64 l.length)),(8,.lit (.int .i64 k)),(3,.own 0)],[(0,some (.row 198 4 ((l.take k).map encParcel)))],1,Tryz.f125.ntmps⟩)
    (fun k=>k≤l.length) (fun k=>l.length - k) 0 (Nat.zero_le _) ((less_own (n:=0) (t:=3) 198 4 rfl rfl rfl).trans less_to) ?_
  intro k hk
  by_cases hkn:k<l.length
  · have hf:=hw _ (getD_mem hkn)
    have h1:=cframes_fn (l.getD k default).Frames hf.2.2.2.2 hf.2.2.2.1
    (repeat' first|(refine s_call (h1) (h:=?_))|(refine p_call (h1) (h:=?_))|(refine s_app (r:=(l.take (k+1)).map encParcel) ?_ ?_ ?_ ?_ (h:=?_);(exact Z65_);(exact Z47_);(exact Z12_);(exact Z22_))|(refine s_app0R (r:=(l.take (k+1)).map encParcel) ?_ ?_ ?_ ?_ (h:=?_);(exact Z65_);(exact Z47_);(exact Z12_);(exact Z22_))|(refine p_app (r:=(l.take (k+1)).map encParcel) ?_ ?_ ?_ ?_ (h:=?_);(exact Z65_);(exact Z47_);(exact Z12_);(exact Z22_))|(refine go_ ?_;((repeat' first|exact True.intro|refine Two.mk ?_ ?_);all_goals intros))|fail "")
    all_goals (refine ⟨k+1,?_,?_,?_⟩;rotate_left 2;(exact lessA_);(exact Z69_);(exact Z67_))
  · (repeat' first|(refine go_ ?_;((repeat' first|exact True.intro|refine Two.mk ?_ ?_);all_goals intros))|fail "")
    all_goals (refine ends_ (hr:=?_);rw [List.take_of_length_le (by omega)])
set_option maxHeartbeats 1000000 in
theorem cpieces_fn (l:List DPiece) (hw:∀ y,y ∈ l→wfPiece y) (hl:l.length * 32≤140737488351232):Fn Tryz.prog 126 [.ro (l.map encPiece)] (.ro (l.map encPiece)):=by
  refine fn_of_run (by kernel_rfl) Tryz.func126 rfl (by kernel_rfl) ?_
  (repeat' first|(refine go_ ?_;((repeat' first|exact True.intro|refine Two.mk ?_ ?_);all_goals intros))|fail "")
  refine r_for (fun k:Nat=>⟨[(6,.ro (l.map encPiece)),(7,.lit (.int .i64 l.length)),(8,.lit (.int .i64 k)),(3,.own 0)],[(0,some (.row 235 2 ((l.take k).map encPiece)))],1,Tryz.f126.ntmps⟩)
    (fun k=>k≤l.length) (fun k=>l.length - k) 0 (Nat.zero_le _) ((less_own (n:=0) (t:=3) 235 2 rfl rfl rfl).trans less_to) ?_
  intro k hk
  by_cases hkn:k<l.length
  · have hf:=hw _ (getD_mem hkn)
    have hd:=hf.2
    (repeat' first|(refine s_app (r:=(l.take (k+1)).map encPiece) ?_ ?_ ?_ ?_ (h:=?_);(exact Z65_);(exact Z47_);(exact Z12_);(exact Z22_))|(refine s_app0R (r:=(l.take (k+1)).map encPiece) ?_ ?_ ?_ ?_ (h:=?_);(exact Z65_);(exact Z47_);(exact Z12_);(exact Z22_))|(refine p_app (r:=(l.take (k+1)).map encPiece) ?_ ?_ ?_ ?_ (h:=?_);(exact Z65_);(exact Z47_);(exact Z12_);(exact Z22_))|(refine s_appro (r:=(l.getD k default).Data.map encB) ?_ ?_ ?_ ?_ (h:=?_);(exact Z65_);(exact Z47_);(exact Z12_);(exact Z22_))|(refine p_appro (r:=(l.getD k default).Data.map encB) ?_ ?_ ?_ ?_ (h:=?_);(exact Z65_);(exact Z47_);(exact Z12_);(exact Z22_))|(refine go_ ?_;((repeat' first|exact True.intro|refine Two.mk ?_ ?_);all_goals intros))|fail "")
    all_goals first
      | (refine ⟨k+1,?_,?_,?_⟩;rotate_left 2;(exact lessA_);(exact Z69_);(exact Z67_))
      | skip
  · (repeat' first|(refine go_ ?_;((repeat' first|exact True.intro|refine Two.mk ?_ ?_);all_goals intros))|fail "")
    all_goals (refine ends_ (hr:=?_);rw [List.take_of_length_le (by omega)])
def connC (c:DConn) (L Q:V):List V:=[.lit (.bool c.Client),.lit (.int .i64 c.Space.Next),.ro (c.Space.Sent.map encParcel),.lit (.int .i64 c.Space.Top),.ro (c.Space.Heard.map encRange),.ro (c.Space.Skip.map encI),.lit (.int .i64 c.Pace.Window),.lit (.int .i64 c.Pace.Thresh),.lit (.int .i64 c.Pace.Flying),.lit (.int .i64 c.Pace.Since),.lit (.int .i64 c.Flow.Max),.lit (.int .i64 c.Flow.Used),.lit (.int .i64 c.Credit.Max),.lit (.int .i64 c.Credit.Used),.lit (.int .i64 c.Ids),.lit (.int .i64 c.Grant),.lit (.int .i64 c.Opened),L,.lit (.bool c.Owes),Q,.lit (.int .i64 c.Last),.lit (.int .i64 c.Resets),.lit (.bool c.Closed),.lit (.int .i64 c.Code)]
set_option maxHeartbeats 4000000 in
theorem cfresh_fnm (c:DConn) (hw:wfConn c):FnM Tryz.prog 60 [.agg (encConn c)] [] 0 (.agg (connC c (.own 0) (.own 1))) [(0,some (.row 134 16 (c.Lanes.map encLane))),(1,some (.row 111 7 (c.Queue.map encFrame)))] 2:=by
  obtain ⟨w0,w1,w2,w3,w4,w5,w6,w7,w8,w9,w10,w11,w12,w13⟩:=hw
  have h1:=cparcels_fn c.Space.Sent w0.2.2.1 w0.2.1
  have l1:=w0.2.2.2.2.1
  have l2:=w0.2.2.2.2.2.2.1
  have h2:=cframes_fnm c.Queue w10 w9
  clear w0 w1 w2 w3 w4 w5 w6 w9 w10 w11 w12 w13
  unfold connC
  refine fnm_of_run (by kernel_rfl) Tryz.func60 rfl (by kernel_rfl) (by rfl) ?_
  (repeat' first|(refine s_call (h1) (h:=?_))|(refine p_call (h1) (h:=?_))|(refine s_appro (r:=c.Space.Heard.map encRange) ?_ ?_ ?_ ?_ (h:=?_);(exact Z65_);(exact Z47_);(exact Z12_);(exact Z22_))|(refine p_appro (r:=c.Space.Heard.map encRange) ?_ ?_ ?_ ?_ (h:=?_);(exact Z65_);(exact Z47_);(exact Z12_);(exact Z22_))|(refine s_appro (r:=c.Space.Skip.map encI) ?_ ?_ ?_ ?_ (h:=?_);(exact Z65_);(exact Z47_);(exact Z12_);(exact Z22_))|(refine p_appro (r:=c.Space.Skip.map encI) ?_ ?_ ?_ ?_ (h:=?_);(exact Z65_);(exact Z47_);(exact Z12_);(exact Z22_))|(refine s_callM [] (h2) (h:=?_))|(refine go_ ?_;((repeat' first|exact True.intro|refine Two.mk ?_ ?_);all_goals intros))|fail "")
  refine r_for (fun k:Nat=>⟨[(1,.ptr 0 0 0 0),(2,.ptr 1 0 0 0),(31,.ro (c.Lanes.map encLane)),(32,.lit (.int .i64 c.Lanes.length)),(33,.lit (.int .i64 k)),(3,.own 3)],[(0,some (.box 51 [.lit (.bool c.Client),.lit (.int .i64 c.Space.Next),.ro (c.Space.Sent.map encParcel),.lit (.int .i64 c.Space.Top),.ro (c.Space.Heard.map encRange),.ro (c.Space.Skip.map encI),.lit (.int .i64 c.Pace.Window),.lit (.int .i64 c.Pace.Thresh),.lit (.int .i64 c.Pace.Flying),.lit (.int .i64 c.Pace.Since),.lit (.int .i64 c.Flow.Max),.lit (.int .i64 c.Flow.Used),.lit (.int .i64 c.Credit.Max),.lit (.int .i64 c.Credit.Used),.lit (.int .i64 c.Ids),.lit (.int .i64 c.Grant),.lit (.int .i64 c.Opened),.ro (c.Lanes.map encLane),.lit (.bool c.Owes),.own 2,.lit (.int .i64 c.Last),.lit (.int .i64 c.Resets),.lit (.bool c.Closed),.lit (.int .i64 c.Code)])),(1,some (.box 51 [.lit (.bool false),.lit (.int .i64 0),.lit (.slice none 0 0),.lit (.int .i64 0),.lit (.slice none 0 0),.lit (.slice none 0 0),.lit (.int .i64 0),.lit (.int .i64 0),.lit (.int .i64 0),.lit (.int .i64 0),.lit (.int .i64 0),.lit (.int .i64 0),.lit (.int .i64 0),.lit (.int .i64 0),.lit (.int .i64 0),.lit (.int .i64 0),.lit (.int .i64 0),.lit (.slice none 0 0),.lit (.bool false),.lit (.slice none 0 0),.lit (.int .i64 0),.lit (.int .i64 0),.lit (.bool false),.lit (.int .i64 0)])),(2,some (.row 111 7 (c.Queue.map encFrame))),(3,some (.row 134 16 ((c.Lanes.take k).map encLane)))],4,Tryz.f60.ntmps⟩)
    (fun k=>k≤c.Lanes.length) (fun k=>c.Lanes.length - k) 0 (Nat.zero_le _) ((less_own (n:=3) (t:=3) 134 16 rfl rfl rfl).trans (by (exact lessA_))) ?_
  intro k hk
  by_cases hkn:k<c.Lanes.length
  · have hf:=w8 _ (getD_mem hkn)
    have h3:=cpieces_fn (c.Lanes.getD k default).In.Held hf.2.1.2.2.1 hf.2.1.2.1
    have q1:=hf.2.2.1
    have q2:=hf.2.2.2.1
    have q3:=hf.2.2.2.2.2.2.1
    have q4:=hf.2.2.2.2.2.2.2.2.1
    (repeat' first|(refine s_call (h3) (h:=?_))|(refine p_call (h3) (h:=?_))|(refine s_app (r:=(c.Lanes.take (k+1)).map encLane) ?_ ?_ ?_ ?_ (h:=?_);(exact Z65_);(exact Z47_);(exact Z12_);(exact Z22_))|(refine s_app0R (r:=(c.Lanes.take (k+1)).map encLane) ?_ ?_ ?_ ?_ (h:=?_);(exact Z65_);(exact Z47_);(exact Z12_);(exact Z22_))|(refine p_app (r:=(c.Lanes.take (k+1)).map encLane) ?_ ?_ ?_ ?_ (h:=?_);(exact Z65_);(exact Z47_);(exact Z12_);(exact Z22_))|(refine s_appro (r:=(c.Lanes.getD k default).Read.map encB) ?_ ?_ ?_ ?_ (h:=?_);(exact Z65_);(exact Z47_);(exact Z12_);(exact Z22_))|(refine p_appro (r:=(c.Lanes.getD k default).Read.map encB) ?_ ?_ ?_ ?_ (h:=?_);(exact Z65_);(exact Z47_);(exact Z12_);(exact Z22_))|(refine s_appro (r:=(c.Lanes.getD k default).Out.Data.map encB) ?_ ?_ ?_ ?_ (h:=?_);(exact Z65_);(exact Z47_);(exact Z12_);(exact Z22_))|(refine p_appro (r:=(c.Lanes.getD k default).Out.Data.map encB) ?_ ?_ ?_ ?_ (h:=?_);(exact Z65_);(exact Z47_);(exact Z12_);(exact Z22_))|(refine s_appro (r:=(c.Lanes.getD k default).Out.Lost.map encRange) ?_ ?_ ?_ ?_ (h:=?_);(exact Z65_);(exact Z47_);(exact Z12_);(exact Z22_))|(refine p_appro (r:=(c.Lanes.getD k default).Out.Lost.map encRange) ?_ ?_ ?_ ?_ (h:=?_);(exact Z65_);(exact Z47_);(exact Z12_);(exact Z22_))|(refine s_appro (r:=(c.Lanes.getD k default).Out.Acked.map encRange) ?_ ?_ ?_ ?_ (h:=?_);(exact Z65_);(exact Z47_);(exact Z12_);(exact Z22_))|(refine p_appro (r:=(c.Lanes.getD k default).Out.Acked.map encRange) ?_ ?_ ?_ ?_ (h:=?_);(exact Z65_);(exact Z47_);(exact Z12_);(exact Z22_))|(refine go_ ?_;((repeat' first|exact True.intro|refine Two.mk ?_ ?_);all_goals intros))|fail "")
    all_goals first
      | (refine ⟨k+1,?_,?_,?_⟩;rotate_left 2;(exact lessA_);(exact Z69_);(exact Z67_))
      | skip
  · have hkl:k=c.Lanes.length:=by omega
    subst hkl
    rw [List.take_length]
    (repeat' first|(refine go_ ?_;((repeat' first|exact True.intro|refine Two.mk ?_ ?_);all_goals intros))|fail "")
    all_goals first
      | (exact endmA_)
      | skip
end Go.Proofs.YtendheafcbickaaGreat
