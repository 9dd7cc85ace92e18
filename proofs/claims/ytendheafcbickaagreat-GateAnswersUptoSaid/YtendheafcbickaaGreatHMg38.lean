/-
  SEVERAL TEXTS IN ONE: each with its own comment.
-/
import Derived.Test.YtendheafcbickaaGreatHZip
import Derived.Test.YtendheafcbickaaGreatHGo
import Derived.Test.YtendheafcbickaaGreatHMg37
import Derived.Test.YtendheafcbickaaGreatHMg18
import Derived.Test.YtendheafcbickaaGreatHMg12

set_option linter.unusedVariables false
set_option linter.unusedSimpArgs false
set_option linter.unusedVariables false
namespace Go.Proofs.YtendheafcbickaaGreat
set_option maxRecDepth 100000
attribute [local irreducible] Run RunL QStep GStep Fn Less PL FnM
theorem getD_set_ne {l:List DLane} {k j:Nat} {x:DLane} (h:k≠j):(l.set k x).getD j default=l.getD j default:=by
  rw [List.getD_eq_getElem?_getD,List.getD_eq_getElem?_getD,List.getElem?_set_ne h]
set_option maxHeartbeats 8000000 in
theorem endPack_fnm (c:DConn) (q out:List DFrame) (hu:∀ y,y ∈ c.Lanes→W.wfLane y∧0≤y.Id∧y.Id≤4611686018427387903) (hl:c.Lanes.length≤1000000) (hc:flwOk c.Credit) (ho:okFs out) (ho2:out.length≤12)
    (R:List DLane×Int×List DFrame) (hR:packN c.Credit.Max c.Lanes c.Lanes.length 0 (c.Lanes,c.Credit.Used,out)=R) :
    FnM Tryz.prog 209 [.ptr 0 0 0 0,.own 2] [(0,some (.box 116 (connC c (.own 1) (.ro (q.map encFrame))))),(1,some (.row 134 16 (c.Lanes.map encLane))),(2,some (.row 111 7 (out.map encFrame)))] 3
      (.own 3) [(0,some (.box 116 (connC (cnPk c R.1 R.2.1) (.own 1) (.ro (q.map encFrame))))),(1,some (.row 134 16 (R.1.map encLane))),(3,some (.row 111 7 (R.2.2.map encFrame)))] 4:=by
  unfold flwOk at hc
  obtain ⟨b0,space,pace,flow,credit,ids,grant,opened,lanes,b1,queue,last,resets,b2,code⟩:=c
  obtain ⟨cmax,cused⟩:=credit
  unfold connC cnPk
  dsimp only at *
  refine fnm_of_run (by kernel_rfl) Tryz.func209 rfl (by kernel_rfl) (by rfl) ?_
  (repeat' first|(refine go_ ?_;((repeat' first|exact True.intro|refine Two.mk ?_ ?_);all_goals intros))|fail "")
  refine r_for (fun x:Nat×List DLane×Int×List DFrame=>⟨[(0,.ptr 0 0 0 0),(1,.own 3),(18,.lit (.int .i64 lanes.length)),(19,.lit (.int .i64 x.1))],[(0,some (.box 116 [.lit (.bool b0),.lit (.int .i64 space.Next),.ro (space.Sent.map encParcel),.lit (.int .i64 space.Top),.ro (space.Heard.map encRange),.ro (space.Skip.map encI),.lit (.int .i64 pace.Window),.lit (.int .i64 pace.Thresh),.lit (.int .i64 pace.Flying),.lit (.int .i64 pace.Since),.lit (.int .i64 flow.Max),.lit (.int .i64 flow.Used),.lit (.int .i64 cmax),.lit (.int .i64 x.2.2.1),.lit (.int .i64 ids),.lit (.int .i64 grant),.lit (.int .i64 opened),.own 1,.lit (.bool b1),.ro (q.map encFrame),.lit (.int .i64 last),.lit (.int .i64 resets),.lit (.bool b2),.lit (.int .i64 code)])),(1,some (.row 134 16 (x.2.1.map encLane))),(3,some (.row 111 7 (x.2.2.2.map encFrame)))],4,Tryz.f209.ntmps⟩)
    (fun x=>x.1≤lanes.length∧packN cmax lanes (lanes.length - x.1) x.1 x.2=R∧x.2.1.length=lanes.length∧(∀ j,x.1≤j→x.2.1.getD j default=lanes.getD j default)∧(0≤x.2.2.1∧x.2.2.1≤cmax)∧okFs x.2.2.2∧x.2.2.2.length≤12) (fun x=>lanes.length - x.1) (0,lanes,cused,out) ⟨Nat.zero_le _,hR,rfl,fun _ _=>rfl,by dsimp only;omega,ho,ho2⟩ (by first|exact mv_ 2|skip) ?_
  clear hR ho ho2
  rintro ⟨k,ls,used,o⟩ ⟨hk,hm,hll,hsame,hus,hok,ho12⟩
  dsimp only at *
  by_cases hkn:k<lanes.length
  · obtain ⟨n,hn⟩:∃ n,lanes.length - k=n+1:=⟨lanes.length - k - 1,by omega⟩
    rw [hn] at hm
    unfold packN at hm
    dsimp only at hm
    have hs:=size_fn o (fun f hf=>(hok f hf).1) (fun f hf=>(hok f hf).2) (by omega)
    have hz:=szF_le (fun f hf=>(hok f hf).2)
    by_cases hst:o.length=12∨rmF o≤0
    · rw [if_pos hst] at hm
      subst hm
      unfold rmF at hst
      generalize szF o=z at *
      (repeat' first|(refine s_snap (hs) (h:=?_))|(refine p_snapO (hs) (h:=?_))|(refine go_ ?_;((repeat' first|exact True.intro|refine Two.mk ?_ ?_);all_goals intros))|fail "")
      all_goals first
        | (exact endmA_)
        | (exfalso;omega)
        | skip
    · rw [if_neg hst] at hm
      obtain ⟨hul,hid1,hid2⟩:=hu _ (getD_mem hkn)
      have hk2:=hsame k (Nat.le_refl k)
      rw [← hk2] at hm hul hid1 hid2
      have hp:=senderPiece_fn (ls.getD k default).Out (rmF o) (cmax - used) (U.wf_leSender _ hul.2.2.2) (by unfold rmF I64;omega) (by unfold I64;omega)
      have hpk:=fun h1 h2=>pc_ok (s:=(ls.getD k default).Out) (room:=rmF o) (credit:=cmax - used) (id:=(ls.getD k default).Id) hul.2.2.2 ⟨hid1,hid2⟩ h1 h2
      have hin:k<(ls.map encLane).length:=by rw [List.length_map];omega
      have hat:eAt (ls.map encLane) k=encLane (ls.getD k default):=by rw [eAt_map encLane (by omega)]
      have hnx:=hul.2.2.2.2.1
      unfold I64 at hnx
      have hrm:rmF o=min 120 (376 - szF o):=rfl
      generalize rmF o=rm at *
      have hm2:min 120 (400 - szF o - 24)=rm:=by omega
      generalize szF o=z at *
      generalize pcR (ls.getD k default).Out rm (cmax - used)=P at *
      obtain ⟨S,F,ok,e⟩:=P
      unfold encPc at hp
      dsimp only at *
      by_cases hgo:e=0∧ok=true
      · rw [if_pos hgo] at hm
        obtain ⟨he,hb⟩:=hgo
        subst he hb
        obtain ⟨⟨d1,d2⟩,hwS,hwF,hfF⟩:=hpk rfl rfl
        have hf:=fSpend_fn ⟨cmax,used⟩ (S.Next - (ls.getD k default).Out.Next) (by unfold flwOk;dsimp only;omega) d1 (by dsimp only;omega)
        have hst2:(ls.map encLane).set k (setAt 8 (encSender S) (eAt (ls.map encLane) k))=(ls.set k { ls.getD k default with Out:=S }).map encLane:=by
          rw [hat,List.map_set];rfl
        have hwn:=hwS.2.1
        unfold I64 at hwn
        (repeat' first|(refine s_snap (hs) (h:=?_))|(refine p_snapO (hs) (h:=?_))|(refine s_call (hp) (h:=?_))|(refine p_call (hp) (h:=?_))|(refine s_call (hf) (h:=?_))|(refine p_call (hf) (h:=?_))|refine s_i (hq:=q_load_one rfl rfl rfl (reads_row rfl hin rfl hat) rfl) (h:=?_)|refine s_i (hq:=q_load_agg rfl rfl rfl rfl (reads_row rfl hin rfl hat) (Nat.le_of_ble_eq_true rfl)) (h:=?_)|refine p_ih (hq:=fun N=>q_load_one rfl rfl rfl (reads_row rfl hin rfl hat) rfl) (h:=?_)|refine p_ih (hq:=fun N=>q_load_agg rfl rfl rfl rfl (reads_row rfl hin rfl hat) (Nat.le_of_ble_eq_true rfl)) (h:=?_)|(refine s_set (r:=(ls.set k { ls.getD k default with Out:=S }).map encLane) ?_ ?_ (h:=?_);(exact Z13_);(focus ((exact hst2))))|(refine p_set (r:=(ls.set k { ls.getD k default with Out:=S }).map encLane) ?_ ?_ (h:=?_);(exact Z13_);(focus ((exact hst2))))|(refine s_app (r:=(o++[wId F (ls.getD k default).Id]).map encFrame) ?_ ?_ ?_ ?_ (h:=?_);(exact Z57_);(exact Z47_);(exact Z12_);(exact Z22_))|(refine s_app0R (r:=(o++[wId F (ls.getD k default).Id]).map encFrame) ?_ ?_ ?_ ?_ (h:=?_);(exact Z57_);(exact Z47_);(exact Z12_);(exact Z22_))|(refine p_app (r:=(o++[wId F (ls.getD k default).Id]).map encFrame) ?_ ?_ ?_ ?_ (h:=?_);(exact Z57_);(exact Z47_);(exact Z12_);(exact Z22_))|(refine goU_ 8 ?_;((repeat' first|exact True.intro|refine Two.mk ?_ ?_);all_goals intros))|fail "")
        rw [hm2]
        refine r_seq ?_
        refine r_drawW [] ?_
        (repeat' first|(refine s_snap (hs) (h:=?_))|(refine p_snapO (hs) (h:=?_))|(refine s_call (hp) (h:=?_))|(refine p_call (hp) (h:=?_))|(refine s_call (hf) (h:=?_))|(refine p_call (hf) (h:=?_))|refine s_i (hq:=q_load_one rfl rfl rfl (reads_row rfl hin rfl hat) rfl) (h:=?_)|refine s_i (hq:=q_load_agg rfl rfl rfl rfl (reads_row rfl hin rfl hat) (Nat.le_of_ble_eq_true rfl)) (h:=?_)|refine p_ih (hq:=fun N=>q_load_one rfl rfl rfl (reads_row rfl hin rfl hat) rfl) (h:=?_)|refine p_ih (hq:=fun N=>q_load_agg rfl rfl rfl rfl (reads_row rfl hin rfl hat) (Nat.le_of_ble_eq_true rfl)) (h:=?_)|(refine s_set (r:=(ls.set k { ls.getD k default with Out:=S }).map encLane) ?_ ?_ (h:=?_);(exact Z13_);(focus ((exact hst2))))|(refine p_set (r:=(ls.set k { ls.getD k default with Out:=S }).map encLane) ?_ ?_ (h:=?_);(exact Z13_);(focus ((exact hst2))))|(refine s_app (r:=(o++[wId F (ls.getD k default).Id]).map encFrame) ?_ ?_ ?_ ?_ (h:=?_);(exact Z57_);(exact Z47_);(exact Z12_);(exact Z22_))|(refine s_app0R (r:=(o++[wId F (ls.getD k default).Id]).map encFrame) ?_ ?_ ?_ ?_ (h:=?_);(exact Z57_);(exact Z47_);(exact Z12_);(exact Z22_))|(refine p_app (r:=(o++[wId F (ls.getD k default).Id]).map encFrame) ?_ ?_ ?_ ?_ (h:=?_);(exact Z57_);(exact Z47_);(exact Z12_);(exact Z22_))|(refine goI_ ?_;((repeat' first|exact True.intro|refine Two.mk ?_ ?_);all_goals intros))|refine s_i (h:=?_)|refine s_i (hq:=q_index_ro rfl rfl rfl (by first|exact lit0|exact lit1|exact lit2|exact lit3|rfl) (by simp only [List.length_cons,List.length_nil];omega) rfl rfl rfl rfl) (h:=?_)|refine p_i (h:=?_)|refine p_ih (h:=?_)|refine s_lit (h:=?_)|refine p_lit (h:=?_)|refine p_lit0 (h:=?_)|refine s_lit0 (h:=?_)|refine s_ixa (h:=?_)|refine s_insert (h:=?_)|(refine s_sadd rfl ?_ (h:=?_);(exact Z11_))|(refine p_sadd rfl ?_ (h:=?_);(exact Z11_))|fail "")
        all_goals first
          | (refine ⟨(k+1,ls.set k { ls.getD k default with Out:=S },used+(S.Next - (ls.getD k default).Out.Next),o++[wId F (ls.getD k default).Id]),?_,?_,?_⟩;rotate_left 2;(exact lessA_);(exact Z66_);(focus (exact ⟨hkn,by (rw [show lanes.length - (k+1)=n by omega];exact hm),by (rw [List.length_set];exact hll),fun j hj=>by (rw [getD_set_ne (by omega)];exact hsame j (by omega)),by (dsimp only;omega),okFs_snoc hok hwF hfF,by (rw [List.length_append,List.length_singleton];omega)⟩)))
          | (exfalso;omega)
          | skip
      · rw [if_neg hgo] at hm
        cases ok
        all_goals
          (repeat' first|(refine s_snap (hs) (h:=?_))|(refine p_snapO (hs) (h:=?_))|(refine s_call (hp) (h:=?_))|(refine p_call (hp) (h:=?_))|refine s_i (hq:=q_load_one rfl rfl rfl (reads_row rfl hin rfl hat) rfl) (h:=?_)|refine s_i (hq:=q_load_agg rfl rfl rfl rfl (reads_row rfl hin rfl hat) (Nat.le_of_ble_eq_true rfl)) (h:=?_)|refine p_ih (hq:=fun N=>q_load_one rfl rfl rfl (reads_row rfl hin rfl hat) rfl) (h:=?_)|refine p_ih (hq:=fun N=>q_load_agg rfl rfl rfl rfl (reads_row rfl hin rfl hat) (Nat.le_of_ble_eq_true rfl)) (h:=?_)|(refine goU_ 8 ?_;((repeat' first|exact True.intro|refine Two.mk ?_ ?_);all_goals intros))|fail "")
          rw [hm2]
          refine r_seq ?_
          refine r_drawW [] ?_
          (repeat' first|(refine s_snap (hs) (h:=?_))|(refine p_snapO (hs) (h:=?_))|(refine s_call (hp) (h:=?_))|(refine p_call (hp) (h:=?_))|refine s_i (hq:=q_load_one rfl rfl rfl (reads_row rfl hin rfl hat) rfl) (h:=?_)|refine s_i (hq:=q_load_agg rfl rfl rfl rfl (reads_row rfl hin rfl hat) (Nat.le_of_ble_eq_true rfl)) (h:=?_)|refine p_ih (hq:=fun N=>q_load_one rfl rfl rfl (reads_row rfl hin rfl hat) rfl) (h:=?_)|refine p_ih (hq:=fun N=>q_load_agg rfl rfl rfl rfl (reads_row rfl hin rfl hat) (Nat.le_of_ble_eq_true rfl)) (h:=?_)|(refine goI_ ?_;((repeat' first|exact True.intro|refine Two.mk ?_ ?_);all_goals intros))|refine s_i (h:=?_)|refine s_i (hq:=q_index_ro rfl rfl rfl (by first|exact lit0|exact lit1|exact lit2|exact lit3|rfl) (by simp only [List.length_cons,List.length_nil];omega) rfl rfl rfl rfl) (h:=?_)|refine p_i (h:=?_)|refine p_ih (h:=?_)|refine s_lit (h:=?_)|refine p_lit (h:=?_)|refine p_lit0 (h:=?_)|refine s_lit0 (h:=?_)|refine s_ixa (h:=?_)|refine s_insert (h:=?_)|(refine s_sadd rfl ?_ (h:=?_);(exact Z11_))|(refine p_sadd rfl ?_ (h:=?_);(exact Z11_))|fail "")
          all_goals first
            | (refine ⟨(k+1,ls,used,o),?_,?_,?_⟩;rotate_left 2;(exact lessA_);(exact Z66_);(focus (exact ⟨hkn,by (rw [show lanes.length - (k+1)=n by omega];exact hm),hll,fun j hj=>hsame j (by omega),hus,hok,ho12⟩)))
            | (exfalso;omega)
            | (exfalso;exact hgo ⟨by omega,rfl⟩)
            | skip
  · have hkl:k=lanes.length:=by omega
    subst hkl
    rw [Nat.sub_self] at hm
    unfold packN at hm
    subst hm
    (repeat' first|(refine go_ ?_;((repeat' first|exact True.intro|refine Two.mk ?_ ?_);all_goals intros))|fail "")
    all_goals first
      | (exact endmA_)
      | skip
end Go.Proofs.YtendheafcbickaaGreat


set_option linter.unusedVariables false
set_option linter.unusedSimpArgs false
set_option linter.unusedVariables false
namespace Go.Proofs.YtendheafcbickaaGreat
set_option maxRecDepth 100000
attribute [local irreducible] Run RunL QStep GStep Fn Less PL
noncomputable def spTell (s:DSpace):List DRange×Int:=if spFlt s≠0 then ([],spFlt s) else (s.Heard.reverse,0)
theorem drop_rev {l:List DRange} {j:Nat} (h0:0<j) (h:j≤l.length):(l.drop (j - 1)).reverse=(l.drop j).reverse++[l.getD (j - 1) default]:=by
  rw [drop_cons (by omega),List.reverse_cons,Nat.sub_add_cancel h0]
theorem tell_fn (s:DSpace) (hw:wfSpace s):Fn Tryz.prog 207 [.agg (encSpace s)] (.tup [.ro ((spTell s).1.map encRange),.lit (.int .i64 (spTell s).2)]):=by
  have h1:=spaceCheck_fn s hw
  unfold spTell
  rcases spFlt_cases s with ⟨h0,ho⟩ | ⟨h0,ho⟩
  · rw [h0] at h1 ⊢
    rw [if_neg (by omega)]
    have hl:s.Heard.length≤6:=ho.1.1.2.2.2.2.2.1
    refine fn_of_run (by kernel_rfl) Tryz.func207 rfl (by kernel_rfl) ?_
    (repeat' first|(refine s_call (h1) (h:=?_))|(refine p_call (h1) (h:=?_))|(refine go_ ?_;((repeat' first|exact True.intro|refine Two.mk ?_ ?_);all_goals intros))|fail "")
    refine r_for (fun j:Nat=>⟨[(1,.ptr 0 0 0 0),(6,.lit (.int .i64 ((j:Int) - 1))),(5,.own 1)],[(0,some (.box 43 (encSpace s))),(1,some (.row 146 2 ((s.Heard.drop j).reverse.map encRange)))],2,Tryz.f207.ntmps⟩)
      (fun j=>j≤s.Heard.length) (fun j=>j) s.Heard.length (Nat.le_refl _) ((less_own (n:=1) (t:=5) 146 2 rfl rfl rfl).trans ?_) ?_
    · rw [List.drop_length];exact less_to
    intro j hj
    by_cases hj0:0<j
    · have hd:(s.Heard.drop j).length≤6:=by rw [List.length_drop];omega
      (repeat' first|(refine s_app (r:=((s.Heard.drop (j - 1)).reverse).map encRange) ?_ ?_ ?_ ?_ (h:=?_);(exact Z51_);(exact Z47_);(exact Z12_);(exact Z22_))|(refine s_app0R (r:=((s.Heard.drop (j - 1)).reverse).map encRange) ?_ ?_ ?_ ?_ (h:=?_);(exact Z51_);(exact Z47_);(exact Z12_);(exact Z22_))|(refine p_app (r:=((s.Heard.drop (j - 1)).reverse).map encRange) ?_ ?_ ?_ ?_ (h:=?_);(exact Z51_);(exact Z47_);(exact Z12_);(exact Z22_))|(refine s_app (r:=((s.Heard.drop (j - 1)).reverse).map encRange) ?_ ?_ ?_ ?_ (h:=?_);(focus (rw [drop_rev hj0 hj,List.map_append];rfl));(focus (exact len_one rfl));(exact Z19_);(exact Z33_))|(refine go_ ?_;((repeat' first|exact True.intro|refine Two.mk ?_ ?_);all_goals intros))|fail "")
      all_goals (refine ⟨j - 1,?_,?_,?_⟩;rotate_left 2;(exact lessA_);(exact Z69_);(exact Z69_))
    · have hj0:j=0:=by omega
      subst hj0
      (repeat' first|(refine go_ ?_;((repeat' first|exact True.intro|refine Two.mk ?_ ?_);all_goals intros))|fail "")
      all_goals exact ends_ (hr:=rfl)
  · rw [h0] at h1 ⊢
    rw [if_pos (by omega)]
    refine fn_of_run (by kernel_rfl) Tryz.func207 rfl (by kernel_rfl) ?_
    (repeat' first|(refine s_call (h1) (h:=?_))|(refine p_call (h1) (h:=?_))|(refine go_ ?_;((repeat' first|exact True.intro|refine Two.mk ?_ ?_);all_goals intros))|fail "")
    all_goals (exact endwA_)
theorem backwards_fn (l:List DRange) (hl:l.length * 16≤140737488351232):Fn Tryz.prog 219 [.ro (l.map encRange)] (.ro (l.reverse.map encRange)):=by
  refine fn_of_run (by kernel_rfl) Tryz.func219 rfl (by kernel_rfl) ?_
  (repeat' first|(refine go_ ?_;((repeat' first|exact True.intro|refine Two.mk ?_ ?_);all_goals intros))|fail "")
  refine r_for (fun k:Nat=>⟨[(6,.ro (l.map encRange)),(7,.lit (.int .i64 l.length)),(8,.lit (.int .i64 k)),(3,.own 0)],[(0,some (.row 146 2 ((l.take k).reverse.map encRange)))],1,Tryz.f219.ntmps⟩)
    (fun k=>k≤l.length) (fun k=>l.length - k) 0 (Nat.zero_le _) ((less_own (n:=0) (t:=3) 146 2 rfl rfl rfl).trans less_to) ?_
  intro k hk
  by_cases hkn:k<l.length
  · have e:(l.take (k+1)).reverse=[l.getD k default]++(l.take k).reverse:=by rw [take_snoc hkn,List.reverse_append];rfl
    have htl:(l.take k).length=k:=by rw [List.length_take];omega
    (repeat' first|refine s_row (l':=[encRange (l.getD k default)]) (h:=?_)|(refine s_app (r:=((l.take (k+1)).reverse).map encRange) ?_ ?_ ?_ ?_ (h:=?_);(focus (rw [e,List.map_append];rfl));(focus (exact len_enc (fun _=>rfl)));(exact Z19_);(exact Z33_))|(refine goI_ ?_;((repeat' first|exact True.intro|refine Two.mk ?_ ?_);all_goals intros))|refine s_i (h:=?_)|refine s_i (hq:=q_index_ro rfl rfl rfl (by first|exact lit0|exact lit1|exact lit2|exact lit3|rfl) (by simp only [List.length_cons,List.length_nil];omega) rfl rfl rfl rfl) (h:=?_)|refine p_i (h:=?_)|refine p_ih (h:=?_)|refine s_lit (h:=?_)|refine p_lit (h:=?_)|refine p_lit0 (h:=?_)|refine s_lit0 (h:=?_)|refine s_ixa (h:=?_)|refine s_insert (h:=?_)|(refine s_sadd rfl ?_ (h:=?_);(exact Z11_))|(refine p_sadd rfl ?_ (h:=?_);(exact Z11_))|fail "")
    all_goals (refine ⟨k+1,?_,?_,?_⟩;rotate_left 2;(exact lessA_);(exact Z69_);(exact Z67_))
  · (repeat' first|(refine go_ ?_;((repeat' first|exact True.intro|refine Two.mk ?_ ?_);all_goals intros))|fail "")
    all_goals (refine ends_ (hr:=?_);rw [List.take_of_length_le (by omega)])
end Go.Proofs.YtendheafcbickaaGreat
