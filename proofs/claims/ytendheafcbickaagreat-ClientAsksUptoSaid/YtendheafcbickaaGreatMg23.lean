/-
  SEVERAL TEXTS IN ONE: each with its own comment.
-/
import Derived.Test.YtendheafcbickaaGreatZip
import Derived.Test.YtendheafcbickaaGreatGo
import Derived.Test.YtendheafcbickaaGreatMg22

set_option linter.unusedVariables false
set_option linter.unusedSimpArgs false
set_option linter.unusedVariables false
namespace Go.Proofs.YtendheafcbickaaGreat
set_option maxRecDepth 100000
attribute [local irreducible] Run RunL QStep GStep Fn Less PL FnM
theorem again_len {c:DConn} {f:DFrame} (h:c.Queue.length≤12):(againR c f).1.length≤12:=by
  unfold againR
  split
  · exact h
  · split
    · exact h
    · exact qTell_len _ _ h
theorem set_okLs {l:List DLane} {k:Nat} {s:DSender} (h:okLs l) (hk:k<l.length) (hs:U.wfSender s):okLs (l.set k { l.getD k default with Out:=s }):=fun y hy=>by
  rcases List.mem_or_eq_of_mem_set hy with hy|hy
  · exact h y hy
  · subst hy
    have:=h _ (getD_mem hk)
    exact ⟨this.1,this.2.1,this.2.2.1,hs⟩
set_option maxHeartbeats 16000000 in
theorem endLost_fnm (c:DConn) (l:List DParcel) (now:Int) (hls:okLs c.Lanes) (hl:c.Lanes.length≤1000000) (hq:c.Queue.length≤12) (hpl:l.length≤1000000) (hp:∀ y,y ∈ l→wfParcel y)
    (C:DConn) (e:Int) (hR:lostAll now c l=(C,e)) (H:List (Nat×Option Blk)) (hH:(e=0∧H=[(0,some (.box 116 (connC C (.own 1) (.own 3)))),(1,some (.row 134 16 (C.Lanes.map encLane))),(3,some (.row 111 7 (C.Queue.map encFrame)))])∨(e≠0∧H=[(0,some (.box 116 (connC C (.own 1) (.own 3))))])) :
    FnM Tryz.prog 112 [.ptr 0 0 0 0,.ro (l.map encParcel),.lit (.int .i64 now)] [(0,some (.box 116 (connC c (.own 1) (.own 2)))),(1,some (.row 134 16 (c.Lanes.map encLane))),(2,some (.row 111 7 (c.Queue.map encFrame)))] 3
      (.lit (.int .i64 e)) H 4:=by
  obtain ⟨b0,space,pace,flow,credit,ids,grant,opened,lanes,b1,queue,last,resets,b2,code⟩:=c
  unfold connC
  dsimp only at *
  refine fnm_of_run (by kernel_rfl) Tryz.func112 rfl (by kernel_rfl) (by rfl) ?_
  (repeat' first|(refine go_ ?_;((repeat' first|exact True.intro|refine Two.mk ?_ ?_);all_goals intros))|fail "")
  refine r_for (fun x:Nat×DPace×List DLane×List DFrame=>⟨[(0,.ptr 0 0 0 0),(2,.lit (.int .i64 now)),(13,.ro (l.map encParcel)),(14,.lit (.int .i64 l.length)),(15,.lit (.int .i64 x.1))],[(0,some (.box 116 [.lit (.bool b0),.lit (.int .i64 space.Next),.ro (space.Sent.map encParcel),.lit (.int .i64 space.Top),.ro (space.Heard.map encRange),.ro (space.Skip.map encI),.lit (.int .i64 x.2.1.Window),.lit (.int .i64 x.2.1.Thresh),.lit (.int .i64 x.2.1.Flying),.lit (.int .i64 x.2.1.Since),.lit (.int .i64 flow.Max),.lit (.int .i64 flow.Used),.lit (.int .i64 credit.Max),.lit (.int .i64 credit.Used),.lit (.int .i64 ids),.lit (.int .i64 grant),.lit (.int .i64 opened),.own 1,.lit (.bool b1),.own 3,.lit (.int .i64 last),.lit (.int .i64 resets),.lit (.bool b2),.lit (.int .i64 code)])),(1,some (.row 134 16 (x.2.2.1.map encLane))),(3,some (.row 111 7 (x.2.2.2.map encFrame)))],4,Tryz.f112.ntmps⟩)
    (fun x=>x.1≤l.length∧lostAll now ⟨b0,space,x.2.1,flow,credit,ids,grant,opened,x.2.2.1,b1,x.2.2.2,last,resets,b2,code⟩ (l.drop x.1)=(C,e)∧okLs x.2.2.1∧x.2.2.1.length=lanes.length∧x.2.2.2.length≤12) (fun x=>l.length - x.1) (0,pace,lanes,queue) ⟨Nat.zero_le _,hR,hls,rfl,hq⟩ (by first|exact mv_ 2|skip) ?_
  clear hR hls hq
  rintro ⟨k,p,ls,q⟩ ⟨hk,hm,hls,hll,hq⟩
  dsimp only at *
  by_cases hkn:k<l.length
  · rw [drop_cons hkn] at hm
    unfold lostAll at hm
    have hwp:=hp _ (getD_mem hkn)
    have hP:=paceLost_fn p (min (l.getD k default).Size p.Flying) (l.getD k default).Time now
    unfold pcLs cnP at hm
    dsimp only at hm
    generalize paceLostV p (min (l.getD k default).Size p.Flying) (l.getD k default).Time now=PV at *
    obtain ⟨p2,pe⟩:=PV
    dsimp only at *
    have hfl:(l.getD k default).Frames.length≤1000000000000000:=by have:=hwp.2.2.2.1;omega
    have hfw:=hwp.2.2.2.2
    generalize hLA:lossAll ⟨b0,space,p2,flow,credit,ids,grant,opened,ls,b1,q,last,resets,b2,code⟩ (l.getD k default).Frames=LA at *
    obtain ⟨C2,e2⟩:=LA
    (repeat' first|(refine s_call (hP) (h:=?_))|(refine p_call (hP) (h:=?_))|(refine go_ ?_;((repeat' first|exact True.intro|refine Two.mk ?_ ?_);all_goals intros))|fail "")
    refine r_for (fun x:Nat×List DLane×List DFrame=>⟨[(0,.ptr 0 0 0 0),(2,.lit (.int .i64 now)),(13,.ro (l.map encParcel)),(14,.lit (.int .i64 l.length)),(15,.lit (.int .i64 k)),(45,.ro ((l.getD k default).Frames.map encFrame)),(46,.lit (.int .i64 (l.getD k default).Frames.length)),(47,.lit (.int .i64 x.1))],[(0,some (.box 116 [.lit (.bool b0),.lit (.int .i64 space.Next),.ro (space.Sent.map encParcel),.lit (.int .i64 space.Top),.ro (space.Heard.map encRange),.ro (space.Skip.map encI),.lit (.int .i64 p2.Window),.lit (.int .i64 p2.Thresh),.lit (.int .i64 p2.Flying),.lit (.int .i64 p2.Since),.lit (.int .i64 flow.Max),.lit (.int .i64 flow.Used),.lit (.int .i64 credit.Max),.lit (.int .i64 credit.Used),.lit (.int .i64 ids),.lit (.int .i64 grant),.lit (.int .i64 opened),.own 1,.lit (.bool b1),.own 3,.lit (.int .i64 last),.lit (.int .i64 resets),.lit (.bool b2),.lit (.int .i64 code)])),(1,some (.row 134 16 (x.2.1.map encLane))),(3,some (.row 111 7 (x.2.2.map encFrame)))],4,Tryz.f112.ntmps⟩)
      (fun x=>x.1≤(l.getD k default).Frames.length∧lossAll ⟨b0,space,p2,flow,credit,ids,grant,opened,x.2.1,b1,x.2.2,last,resets,b2,code⟩ ((l.getD k default).Frames.drop x.1)=(C2,e2)∧okLs x.2.1∧x.2.1.length=lanes.length∧x.2.2.length≤12) (fun x=>(l.getD k default).Frames.length - x.1) (0,ls,q) ⟨Nat.zero_le _,hLA,hls,hll,hq⟩ (by (exact lessA_)) ?_
    clear hLA hls hll hq hP
    rintro ⟨j,ls,q⟩ ⟨hj,hm2,hls,hll,hq⟩
    dsimp only at *
    by_cases hjn:j<(l.getD k default).Frames.length
    · rw [drop_cons hjn] at hm2
      unfold lossAll at hm2
      have hwf:=hfw _ (getD_mem hjn)
      generalize (l.getD k default).Frames=fs at *
      have hLn:=endLane_fnm ⟨b0,space,p2,flow,credit,ids,grant,opened,ls,b1,q,last,resets,b2,code⟩ (fs.getD j default).Id (by dsimp only;omega)
      have hle:=lnIx_le ls (fs.getD j default).Id
      unfold lossR lnOf at hm2
      dsimp only at hm2 hLn
      unfold connC lnP at hLn
      by_cases k8:(fs.getD j default).Kind=8
      · rw [if_pos k8] at hm2
        by_cases hx:lnIx ls (fs.getD j default).Id<ls.length
        · rw [if_pos hx] at hm2
          rw [if_pos hx] at hLn
          have hin:lnIx ls (fs.getD j default).Id<(ls.map encLane).length:=by rw [List.length_map];exact hx
          have hat:=eAt_map encLane hx
          have hul:=hls _ (getD_mem hx)
          have hws:=U.wf_leSender _ hul.2.2.2
          have hLs:=lose_fn (ls.getD (lnIx ls (fs.getD j default).Id) default).Out (fs.getD j default).Off (fs.getD j default).Data.length (fs.getD j default).Fin hws ⟨by have:=hul.2.2.2.2.2.2.1;omega,by have:=hul.2.2.2.2.2.2.2.2.1;omega⟩ hwf.2.2.1 (by have:=hwf.2.2.2.2.2.2;unfold I64;omega)
          have hLU:=fun h=>lostR_U (s:=(ls.getD (lnIx ls (fs.getD j default).Id) default).Out) (off:=(fs.getD j default).Off) (n:=(fs.getD j default).Data.length) (fin:=(fs.getD j default).Fin) hul.2.2.2 h
          have hset:=fun s h=>set_okLs (s:=s) hls hx h
          generalize lnIx ls (fs.getD j default).Id=n at *
          generalize lostR (ls.getD n default).Out (fs.getD j default).Off (fs.getD j default).Data.length (fs.getD j default).Fin=LR at *
          obtain ⟨S,le⟩:=LR
          unfold encSE at hLs
          dsimp only at *
          have hst2:(ls.map encLane).set n (setAt 8 (encSender S) (eAt (ls.map encLane) n))=(ls.set n { ls.getD n default with Out:=S }).map encLane:=by
            rw [hat,List.map_set];rfl
          by_cases hle0:le=0
          · subst hle0
            rw [if_pos rfl,if_pos rfl] at hm2
            unfold cnLQ at hm2
            dsimp only at hm2
            (repeat' first|(refine s_callM [0,1,3] (hLn) (h:=?_))|(refine p_callM [0,1,3] (hLn) (h:=?_))|refine s_i (hq:=q_nil_neq rfl rfl rfl rfl) (h:=?_)|(refine goI_ ?_;((repeat' first|exact True.intro|refine Two.mk ?_ ?_);all_goals intros))|refine s_i (h:=?_)|refine s_i (hq:=q_index_ro rfl rfl rfl (by first|exact lit0|exact lit1|exact lit2|rfl) (by simp only [List.length_cons,List.length_nil];omega) rfl rfl rfl rfl) (h:=?_)|refine p_i (h:=?_)|refine p_ih (h:=?_)|refine s_lit (h:=?_)|refine p_lit (h:=?_)|refine p_lit0 (h:=?_)|refine s_lit0 (h:=?_)|refine s_ixa (h:=?_)|refine s_insert (h:=?_)|(refine s_sadd rfl ?_ (h:=?_);(exact Z9_))|(refine p_sadd rfl ?_ (h:=?_);(exact Z9_))|fail "")
            all_goals first
              | (refine r_drawW [(18,1)] ?_;(repeat' first|(refine s_call (hLs) (h:=?_))|(refine p_call (hLs) (h:=?_))|refine p_ih (hq:=fun N=>q_load_agg rfl rfl rfl rfl (reads_row rfl hin rfl hat) (Nat.le_of_ble_eq_true rfl)) (h:=?_)|(refine s_set (r:=(ls.set n { ls.getD n default with Out:=S }).map encLane) ?_ ?_ (h:=?_);(exact Z11_);(focus ((exact hst2))))|(refine p_set (r:=(ls.set n { ls.getD n default with Out:=S }).map encLane) ?_ ?_ (h:=?_);(exact Z11_);(focus ((exact hst2))))|(refine goI_ ?_;((repeat' first|exact True.intro|refine Two.mk ?_ ?_);all_goals intros))|refine s_i (h:=?_)|refine s_i (hq:=q_index_ro rfl rfl rfl (by first|exact lit0|exact lit1|exact lit2|rfl) (by simp only [List.length_cons,List.length_nil];omega) rfl rfl rfl rfl) (h:=?_)|refine p_i (h:=?_)|refine p_ih (h:=?_)|refine s_lit (h:=?_)|refine p_lit (h:=?_)|refine p_lit0 (h:=?_)|refine s_lit0 (h:=?_)|refine s_ixa (h:=?_)|refine s_insert (h:=?_)|(refine s_sadd rfl ?_ (h:=?_);(exact Z9_))|(refine p_sadd rfl ?_ (h:=?_);(exact Z9_))|fail ""))
              | skip
            all_goals first
              | (refine ⟨(j+1,ls.set n { ls.getD n default with Out:=S },q),?_,?_,?_⟩;rotate_left 2;(exact lessA_);(exact Z66_);(focus (exact ⟨hjn,hm2,hset S (hLU rfl),(by rw [List.length_set];exact hll),hq⟩)))
              | (exfalso;omega)
              | skip
          · rw [if_neg hle0] at hm2
            dsimp only at hm2
            rw [if_neg hle0] at hm2
            cases hm2
            rw [if_neg hle0] at hm
            cases hm
            rcases hH with ⟨h0,_⟩ | ⟨_,rfl⟩
            · exact absurd h0 hle0
            · (repeat' first|(refine s_callM [0,1,3] (hLn) (h:=?_))|(refine p_callM [0,1,3] (hLn) (h:=?_))|refine s_i (hq:=q_nil_neq rfl rfl rfl rfl) (h:=?_)|(refine goI_ ?_;((repeat' first|exact True.intro|refine Two.mk ?_ ?_);all_goals intros))|refine s_i (h:=?_)|refine s_i (hq:=q_index_ro rfl rfl rfl (by first|exact lit0|exact lit1|exact lit2|rfl) (by simp only [List.length_cons,List.length_nil];omega) rfl rfl rfl rfl) (h:=?_)|refine p_i (h:=?_)|refine p_ih (h:=?_)|refine s_lit (h:=?_)|refine p_lit (h:=?_)|refine p_lit0 (h:=?_)|refine s_lit0 (h:=?_)|refine s_ixa (h:=?_)|refine s_insert (h:=?_)|(refine s_sadd rfl ?_ (h:=?_);(exact Z9_))|(refine p_sadd rfl ?_ (h:=?_);(exact Z9_))|fail "")
              all_goals first
                | (refine r_drawW [(18,1)] ?_;(repeat' first|(refine s_call (hLs) (h:=?_))|(refine p_call (hLs) (h:=?_))|refine p_ih (hq:=fun N=>q_load_agg rfl rfl rfl rfl (reads_row rfl hin rfl hat) (Nat.le_of_ble_eq_true rfl)) (h:=?_)|(refine s_set (r:=(ls.set n { ls.getD n default with Out:=S }).map encLane) ?_ ?_ (h:=?_);(exact Z11_);(focus ((exact hst2))))|(refine p_set (r:=(ls.set n { ls.getD n default with Out:=S }).map encLane) ?_ ?_ (h:=?_);(exact Z11_);(focus ((exact hst2))))|(refine goI_ ?_;((repeat' first|exact True.intro|refine Two.mk ?_ ?_);all_goals intros))|refine s_i (h:=?_)|refine s_i (hq:=q_index_ro rfl rfl rfl (by first|exact lit0|exact lit1|exact lit2|rfl) (by simp only [List.length_cons,List.length_nil];omega) rfl rfl rfl rfl) (h:=?_)|refine p_i (h:=?_)|refine p_ih (h:=?_)|refine s_lit (h:=?_)|refine p_lit (h:=?_)|refine p_lit0 (h:=?_)|refine s_lit0 (h:=?_)|refine s_ixa (h:=?_)|refine s_insert (h:=?_)|(refine s_sadd rfl ?_ (h:=?_);(exact Z9_))|(refine p_sadd rfl ?_ (h:=?_);(exact Z9_))|fail ""))
                | skip
              all_goals first
                | (exact endmA_)
                | (exfalso;omega)
                | skip
        · rw [if_neg hx] at hm2
          rw [if_neg hx] at hLn
          rw [if_pos rfl] at hm2
          unfold cnLQ at hm2
          dsimp only at hm2
          (repeat' first|(refine s_callM [0,1,3] (hLn) (h:=?_))|(refine p_callM [0,1,3] (hLn) (h:=?_))|refine s_i (hq:=q_nil2_neq rfl rfl rfl rfl) (h:=?_)|(refine goI_ ?_;((repeat' first|exact True.intro|refine Two.mk ?_ ?_);all_goals intros))|refine s_i (h:=?_)|refine s_i (hq:=q_index_ro rfl rfl rfl (by first|exact lit0|exact lit1|exact lit2|rfl) (by simp only [List.length_cons,List.length_nil];omega) rfl rfl rfl rfl) (h:=?_)|refine p_i (h:=?_)|refine p_ih (h:=?_)|refine s_lit (h:=?_)|refine p_lit (h:=?_)|refine p_lit0 (h:=?_)|refine s_lit0 (h:=?_)|refine s_ixa (h:=?_)|refine s_insert (h:=?_)|(refine s_sadd rfl ?_ (h:=?_);(exact Z9_))|(refine p_sadd rfl ?_ (h:=?_);(exact Z9_))|fail "")
          all_goals first
            | (refine ⟨(j+1,ls,q),?_,?_,?_⟩;rotate_left 2;(exact lessA_);(exact Z66_);(focus (exact ⟨hjn,hm2,hls,hll,hq⟩)))
            | (exfalso;omega)
            | skip
      · rw [if_neg k8] at hm2
        have hAg:=endAgain_fnm ⟨b0,space,p2,flow,credit,ids,grant,opened,ls,b1,q,last,resets,b2,code⟩ (fs.getD j default) (by dsimp only;omega) hq
        have hAl:=again_len (c:=⟨b0,space,p2,flow,credit,ids,grant,opened,ls,b1,q,last,resets,b2,code⟩) (f:=fs.getD j default) hq
        unfold connC at hAg
        by_cases hka:kAg (fs.getD j default).Kind
        · rw [if_pos hka] at hm2
          unfold kAg at hka
          generalize againR ⟨b0,space,p2,flow,credit,ids,grant,opened,ls,b1,q,last,resets,b2,code⟩ (fs.getD j default)=AR at *
          obtain ⟨rq,re⟩:=AR
          dsimp only at *
          by_cases hre:re=0
          · subst hre
            rw [if_pos rfl] at hm2
            unfold cnLQ at hm2
            dsimp only at hm2
            (repeat' first|(refine s_callM [0,1,3] (hAg) (h:=?_))|(refine p_callM [0,1,3] (hAg) (h:=?_))|(refine go_ ?_;((repeat' first|exact True.intro|refine Two.mk ?_ ?_);all_goals intros))|fail "")
            all_goals first
              | (refine ⟨(j+1,ls,rq),?_,?_,?_⟩;rotate_left 2;(exact lessA_);(exact Z66_);(focus (exact ⟨hjn,hm2,hls,hll,hAl⟩)))
              | (exfalso;omega)
              | skip
          · rw [if_neg hre] at hm2
            cases hm2
            rw [if_neg hre] at hm
            cases hm
            rcases hH with ⟨h0,_⟩ | ⟨_,rfl⟩
            · exact absurd h0 hre
            · (repeat' first|(refine s_callM [0,1,3] (hAg) (h:=?_))|(refine p_callM [0,1,3] (hAg) (h:=?_))|(refine go_ ?_;((repeat' first|exact True.intro|refine Two.mk ?_ ?_);all_goals intros))|fail "")
              all_goals first
                | (exact endmA_)
                | (exfalso;omega)
                | skip
        · rw [if_neg hka] at hm2
          unfold kAg at hka
          rw [if_pos rfl] at hm2
          unfold cnLQ at hm2
          dsimp only at hm2
          (repeat' first|(refine go_ ?_;((repeat' first|exact True.intro|refine Two.mk ?_ ?_);all_goals intros))|fail "")
          all_goals first
            | (refine ⟨(j+1,ls,q),?_,?_,?_⟩;rotate_left 2;(exact lessA_);(exact Z66_);(focus (exact ⟨hjn,hm2,hls,hll,hq⟩)))
            | (exfalso;omega)
            | skip
    · have hjl:j=(l.getD k default).Frames.length:=by omega
      subst hjl
      rw [List.drop_length] at hm2
      unfold lossAll at hm2
      cases hm2
      rw [if_pos rfl] at hm
      (repeat' first|(refine go_ ?_;((repeat' first|exact True.intro|refine Two.mk ?_ ?_);all_goals intros))|fail "")
      all_goals first
        | (refine ⟨(k+1,p2,ls,q),?_,?_,?_⟩;rotate_left 2;(exact lessA_);(exact Z66_);(focus (exact ⟨hkn,hm,hls,hll,hq⟩)))
        | skip
  · have hkl:k=l.length:=by omega
    subst hkl
    rw [List.drop_length] at hm
    unfold lostAll at hm
    cases hm
    rcases hH with ⟨_,rfl⟩ | ⟨h0,_⟩
    · (repeat' first|(refine go_ ?_;((repeat' first|exact True.intro|refine Two.mk ?_ ?_);all_goals intros))|fail "")
      all_goals first
        | (exact endmA_)
        | skip
    · exact absurd rfl h0
end Go.Proofs.YtendheafcbickaaGreat


set_option linter.unusedVariables false
set_option linter.unusedSimpArgs false
set_option linter.unusedVariables false
namespace Go.Proofs.YtendheafcbickaaGreat
set_option maxRecDepth 100000
attribute [local irreducible] Run RunL QStep GStep Fn Less PL FnM
def encLr (u:Int→Value) (x:DLane):List V:=[.lit (.int .i64 x.Id),.lit (.int .i64 x.In.Done),.ro (x.In.Held.map encPiece),.lit (.int .i64 x.In.Final),.lit (.int .i64 x.In.Window),.lit (u x.Id),.lit (.bool x.Over),.lit (.bool x.Cut),.ro (x.Out.Data.map encB),.lit (.bool x.Out.Fin),.lit (.int .i64 x.Out.Next),.lit (.int .i64 x.Out.Max),.ro (x.Out.Lost.map encRange),.ro (x.Out.Acked.map encRange),.lit (.bool x.Out.Ended),.lit (.bool x.Out.Over)]
end Go.Proofs.YtendheafcbickaaGreat
