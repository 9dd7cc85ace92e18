
import Derived.Test.YtendheafcbickaaGreatZip
import Derived.Test.YtendheafcbickaaGreatGo
import Derived.Test.YtendheafcbickaaGreatMg22
set_option linter.unusedVariables false
set_option linter.unusedSimpArgs false
set_option linter.unusedVariables false
namespace Go.Proofs.YtendheafcbickaaGreat
set_option maxRecDepth 100000
attribute [local irreducible] Run RunL QStep GStep Fn Less PL FnM
set_option maxHeartbeats 4000000 in
theorem connWritten_fn (c:DConn) (id:Int) (b:List UInt8) (fin:Bool) (hu:W.wfConn c) (hb:b.length≤1048576):Fn Tryz.prog 44 [.agg (encConn c),.lit (.int .i64 id),.ro (b.map encB),.lit (.bool fin)] (encCnE (cnWriteR c id b fin)):=by
  have h1:=connFault_fn c hu
  have hll:c.Lanes.length≤1000000000:=by have:=hu.2.2.2.2.2.2.2.1;omega
  have hlw:=hu.2.2.2.2.2.2.2.2.1
  clear hu
  unfold cnWriteR encCnE
  rcases cnFlt_cases c with ⟨h0,hok⟩ | ⟨h0,hok⟩
  · rw [h0] at h1 ⊢
    rw [if_pos rfl]
    obtain ⟨r1,r2,r3,r4⟩:=cn_room hok
    have h2:=laneAt_fn c id (by omega)
    clear hok h0
    by_cases hx:lnIx c.Lanes id<c.Lanes.length
    · rw [if_pos hx] at h2 ⊢
      have hul:=hlw _ (getD_mem hx)
      have h3:=senderWritten_fn (c.Lanes.getD (lnIx c.Lanes id) default).Out b fin hul.2.2.2 (by omega)
      have h4:=fun s=>setLane_fn c (lnIx c.Lanes id) { c.Lanes.getD (lnIx c.Lanes id) default with Out:=s } (by omega) hx
      clear hul hlw
      generalize lnIx c.Lanes id=k at *
      generalize wrR (c.Lanes.getD k default).Out b fin=W at *
      obtain ⟨S,e⟩:=W
      have h4:=h4 S
      generalize hC:cnSet c k { c.Lanes.getD k default with Out:=S }=C at *
      clear hC
      obtain ⟨b0,space,pace,flow,credit,ids,grant,opened,lanes,b1,queue,last,resets,b2,code⟩:=c
      dsimp only at *
      cases b2
      all_goals
        by_cases he:e=0
        all_goals
          first|rw [if_pos rfl]|rw [if_neg (by decide)]
          first|rw [if_pos he]|rw [if_neg he]|skip
          refine fn_of_run (by kernel_rfl) Tryz.func44 rfl (by kernel_rfl) ?_
          (repeat' first|(refine s_call (h1) (h:=?_))|(refine p_call (h1) (h:=?_))|(refine s_call (h2) (h:=?_))|(refine p_call (h2) (h:=?_))|(refine s_call (h3) (h:=?_))|(refine p_call (h3) (h:=?_))|(refine s_call (h4) (h:=?_))|(refine p_call (h4) (h:=?_))|(refine go_ ?_;((repeat' first|exact True.intro|refine Two.mk ?_ ?_);all_goals intros))|fail "")
          all_goals (try dsimp only at *)
          all_goals first
            | (exact endwA_)
            | (subst he;(exact endwA_))
            | (exfalso;omega)
            | skip
    · rw [if_neg hx] at h2 ⊢
      clear hlw
      obtain ⟨b0,space,pace,flow,credit,ids,grant,opened,lanes,b1,queue,last,resets,b2,code⟩:=c
      dsimp only at *
      cases b2
      all_goals
        first|rw [if_pos rfl]|rw [if_neg (by decide)]
        refine fn_of_run (by kernel_rfl) Tryz.func44 rfl (by kernel_rfl) ?_
        (repeat' first|(refine s_call (h1) (h:=?_))|(refine p_call (h1) (h:=?_))|(refine s_call (h2) (h:=?_))|(refine p_call (h2) (h:=?_))|(refine go_ ?_;((repeat' first|exact True.intro|refine Two.mk ?_ ?_);all_goals intros))|fail "")
        all_goals (try dsimp only at *)
        all_goals first
          | (exact endwA_)
          | (exfalso;omega)
          | skip
  · rw [h0] at h1 ⊢
    rw [if_neg (by decide)]
    refine fn_of_run (by kernel_rfl) Tryz.func44 rfl (by kernel_rfl) ?_
    (repeat' first|(refine s_call (h1) (h:=?_))|(refine p_call (h1) (h:=?_))|(refine go_ ?_;((repeat' first|exact True.intro|refine Two.mk ?_ ?_);all_goals intros))|fail "")
    all_goals first
      | (exact endwA_)
      | skip
set_option maxHeartbeats 4000000 in
theorem connWrite_fn (c:DConn) (id:Int) (b:List UInt8) (fin:Bool) (hw:wfConn c) (hb:b.length≤1048576):Fn Tryz.prog 39 [.agg (encConn c),.lit (.int .i64 id),.ro (b.map encB),.lit (.bool fin)] (encCnE (cnWriteR c id b fin)):=by
  have h1:=connCheck_fn c hw
  have hF:=cfresh_fnm c hw
  have hlw:=hw.2.2.2.2.2.2.2.2.1
  clear hw
  unfold cnWriteR encCnE
  rcases cnFlt_cases c with ⟨h0,hok⟩ | ⟨h0,hok⟩
  · rw [h0] at h1 ⊢
    rw [if_pos rfl]
    obtain ⟨r1,r2,r3,r4⟩:=cn_room hok
    have h2:=endLane_fnm c id (by omega)
    unfold lnP connC at h2
    unfold connC at hF
    clear hok h0
    by_cases hx:lnIx c.Lanes id<c.Lanes.length
    · rw [if_pos hx] at h2 ⊢
      have hul:=hlw _ (getD_mem hx)
      have h3:=senderWrite_fn (c.Lanes.getD (lnIx c.Lanes id) default).Out b fin hul.2.2.2 (by omega)
      have hin:lnIx c.Lanes id<(c.Lanes.map encLane).length:=by rw [List.length_map];exact hx
      have hat:=eAt_map encLane hx
      clear hul hlw
      generalize lnIx c.Lanes id=k at *
      generalize wrR (c.Lanes.getD k default).Out b fin=W at *
      obtain ⟨S,e⟩:=W
      obtain ⟨b0,space,pace,flow,credit,ids,grant,opened,lanes,b1,queue,last,resets,b2,code⟩:=c
      unfold cnSet
      dsimp only at *
      have hst:(lanes.map encLane).set k (setAt 8 (encSender S) (eAt (lanes.map encLane) k))=(lanes.set k { lanes.getD k default with Out:=S }).map encLane:=by
        rw [hat,List.map_set];rfl
      cases b2
      all_goals
        by_cases he:e=0
        all_goals
          first|rw [if_pos rfl]|rw [if_neg (by decide)]
          first|rw [if_pos he]|rw [if_neg he]|skip
          refine fn_of_run (by kernel_rfl) Tryz.func39 rfl (by kernel_rfl) ?_
          (repeat' first|(refine s_call (h1) (h:=?_))|(refine p_call (h1) (h:=?_))|(refine s_callM [] (hF) (h:=?_))|(refine s_callM [4,2,3] (h2) (h:=?_))|(refine p_callM [4,2,3] (h2) (h:=?_))|(refine s_call (h3) (h:=?_))|(refine p_call (h3) (h:=?_))|refine s_i (hq:=q_nil_eql rfl rfl rfl rfl) (h:=?_)|refine s_i (hq:=q_load_agg rfl rfl rfl rfl (reads_row rfl hin rfl hat) (Nat.le_of_ble_eq_true rfl)) (h:=?_)|(refine s_set (r:=(lanes.set k { lanes.getD k default with Out:=S }).map encLane) ?_ ?_ (h:=?_);(exact Z11_);(focus ((exact hst))))|(refine p_set (r:=(lanes.set k { lanes.getD k default with Out:=S }).map encLane) ?_ ?_ (h:=?_);(exact Z11_);(focus ((exact hst))))|(refine goI_ ?_;((repeat' first|exact True.intro|refine Two.mk ?_ ?_);all_goals intros))|refine s_i (h:=?_)|refine s_i (hq:=q_index_ro rfl rfl rfl (by first|exact lit0|exact lit1|exact lit2|rfl) (by simp only [List.length_cons,List.length_nil];omega) rfl rfl rfl rfl) (h:=?_)|refine p_i (h:=?_)|refine p_ih (h:=?_)|refine s_lit (h:=?_)|refine p_lit (h:=?_)|refine p_lit0 (h:=?_)|refine s_lit0 (h:=?_)|refine s_ixa (h:=?_)|refine s_insert (h:=?_)|(refine s_sadd rfl ?_ (h:=?_);(exact Z9_))|(refine p_sadd rfl ?_ (h:=?_);(exact Z9_))|fail "")
          all_goals (try dsimp only at *)
          all_goals first
            | (exact endwA_)
            | (subst he;(exact endwA_))
            | (exfalso;omega)
            | skip
    · rw [if_neg hx] at h2 ⊢
      clear hlw
      obtain ⟨b0,space,pace,flow,credit,ids,grant,opened,lanes,b1,queue,last,resets,b2,code⟩:=c
      dsimp only at *
      cases b2
      all_goals
        first|rw [if_pos rfl]|rw [if_neg (by decide)]
        refine fn_of_run (by kernel_rfl) Tryz.func39 rfl (by kernel_rfl) ?_
        (repeat' first|(refine s_call (h1) (h:=?_))|(refine p_call (h1) (h:=?_))|(refine s_callM [] (hF) (h:=?_))|(refine s_callM [4,2,3] (h2) (h:=?_))|(refine p_callM [4,2,3] (h2) (h:=?_))|refine s_i (hq:=q_nil2_eql rfl rfl rfl rfl) (h:=?_)|(refine goI_ ?_;((repeat' first|exact True.intro|refine Two.mk ?_ ?_);all_goals intros))|refine s_i (h:=?_)|refine s_i (hq:=q_index_ro rfl rfl rfl (by first|exact lit0|exact lit1|exact lit2|rfl) (by simp only [List.length_cons,List.length_nil];omega) rfl rfl rfl rfl) (h:=?_)|refine p_i (h:=?_)|refine p_ih (h:=?_)|refine s_lit (h:=?_)|refine p_lit (h:=?_)|refine p_lit0 (h:=?_)|refine s_lit0 (h:=?_)|refine s_ixa (h:=?_)|refine s_insert (h:=?_)|(refine s_sadd rfl ?_ (h:=?_);(exact Z9_))|(refine p_sadd rfl ?_ (h:=?_);(exact Z9_))|fail "")
        all_goals (try dsimp only at *)
        all_goals first
          | (exact endwA_)
          | (exfalso;omega)
          | skip
  · rw [h0] at h1 ⊢
    rw [if_neg (by decide)]
    refine fn_of_run (by kernel_rfl) Tryz.func39 rfl (by kernel_rfl) ?_
    (repeat' first|(refine s_call (h1) (h:=?_))|(refine p_call (h1) (h:=?_))|(refine go_ ?_;((repeat' first|exact True.intro|refine Two.mk ?_ ?_);all_goals intros))|fail "")
    all_goals first
      | (exact endwA_)
      | skip
end Go.Proofs.YtendheafcbickaaGreat
