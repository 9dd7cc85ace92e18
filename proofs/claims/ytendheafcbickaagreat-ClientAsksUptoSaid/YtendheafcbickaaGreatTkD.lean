
import Derived.Test.YtendheafcbickaaGreatZip
import Derived.Test.YtendheafcbickaaGreatGo
import Derived.Test.YtendheafcbickaaGreatTkC
set_option linter.unusedVariables false
set_option linter.unusedSimpArgs false
set_option linter.unusedVariables false
namespace Go.Proofs.YtendheafcbickaaGreat
set_option maxRecDepth 100000
attribute [local irreducible] Run RunL QStep GStep Fn Less PL FnM
set_option maxHeartbeats 16000000 in
theorem retold_fn (c:DConn) (f:DFrame) (hls:okLs c.Lanes) (hl:c.Lanes.length≤1000000) (hq:c.Queue.length≤12) (hwf:wfFrame f) :
    Fn Tryz.prog 235 [.agg (encConn c),.agg (encFrame f)] (.tup [.agg (encConn (cnLQ c (lossR c f).1 (lossR c f).2.1)),.lit (.int .i64 (lossR c f).2.2)]):=by
  have hLn:=laneAt_fn c f.Id hl
  have hle:=lnIx_le c.Lanes f.Id
  have hQd:=fun g=>queued_fn c g hq
  generalize hR:lossR c f=R
  obtain ⟨rl,rq,re⟩:=R
  unfold lossR againR agF lnOf at hR
  obtain ⟨b0,space,pace,flow,credit,ids,grant,opened,lanes,b1,queue,last,resets,b2,code⟩:=c
  obtain ⟨kd,fid,foff,fin,fcode,frs,fdata⟩:=f
  unfold wOff at hR
  unfold cnLQ
  dsimp only at *
  by_cases k8:kd=8
  · subst k8
    rw [if_pos rfl] at hR
    by_cases hx:lnIx lanes fid<lanes.length
    · rw [if_pos hx] at hR hLn
      have hul:=hls _ (getD_mem hx)
      have hLs:=loseRef_fn (lanes.getD (lnIx lanes fid) default).Out foff fdata.length fin hul.2.2.2 hwf.2.2.1 (by have:=hwf.2.2.2.2.2.2;dsimp only at this;unfold I64;omega)
      have hsl:=fun S=>setLane_fn ⟨b0,space,pace,flow,credit,ids,grant,opened,lanes,b1,queue,last,resets,b2,code⟩ (lnIx lanes fid) { lanes.getD (lnIx lanes fid) default with Out:=S } hl hx
      clear hls hul hwf hQd
      generalize lnIx lanes fid=n at *
      generalize lostR (lanes.getD n default).Out foff fdata.length fin=LR at *
      obtain ⟨S,le⟩:=LR
      have hsl:=hsl S
      unfold encSE at hLs
      unfold cnSet at hsl
      dsimp only at *
      by_cases hle0:le=0
      · subst hle0
        rw [if_pos rfl] at hR
        cases hR
        refine fn_of_run (by kernel_rfl) Tryz.func235 rfl (by kernel_rfl) ?_
        (repeat' first|(refine s_call (hLn) (h:=?_))|(refine p_call (hLn) (h:=?_))|(refine s_call (hLs) (h:=?_))|(refine p_call (hLs) (h:=?_))|(refine s_call (hsl) (h:=?_))|(refine p_call (hsl) (h:=?_))|(refine go_ ?_;((repeat' first|exact True.intro|refine Two.mk ?_ ?_);all_goals intros))|fail "")
        all_goals first
          | (exact endwA_)
          | (exfalso;omega)
          | (exfalso;dsimp only at *;omega)
          | (exfalso;simp only [IntKind.wrap_i64] at *;omega)
          | skip
      · rw [if_neg hle0] at hR
        cases hR
        refine fn_of_run (by kernel_rfl) Tryz.func235 rfl (by kernel_rfl) ?_
        (repeat' first|(refine s_call (hLn) (h:=?_))|(refine p_call (hLn) (h:=?_))|(refine s_call (hLs) (h:=?_))|(refine p_call (hLs) (h:=?_))|(refine s_call (hsl) (h:=?_))|(refine p_call (hsl) (h:=?_))|(refine go_ ?_;((repeat' first|exact True.intro|refine Two.mk ?_ ?_);all_goals intros))|fail "")
        all_goals first
          | (exact endwA_)
          | (exfalso;omega)
          | (exfalso;dsimp only at *;omega)
          | (exfalso;simp only [IntKind.wrap_i64] at *;omega)
          | skip
    · rw [if_neg hx] at hR hLn
      cases hR
      refine fn_of_run (by kernel_rfl) Tryz.func235 rfl (by kernel_rfl) ?_
      (repeat' first|(refine s_call (hLn) (h:=?_))|(refine p_call (hLn) (h:=?_))|(refine go_ ?_;((repeat' first|exact True.intro|refine Two.mk ?_ ?_);all_goals intros))|fail "")
      all_goals first
        | (exact endwA_)
        | (exfalso;omega)
        | (exfalso;dsimp only at *;omega)
        | (exfalso;simp only [IntKind.wrap_i64] at *;omega)
        | skip
  · rw [if_neg k8] at hR
    by_cases hka:kAg kd
    · rw [if_pos hka] at hR
      unfold kAg at hka
      obtain ⟨ix,hix⟩:∃ ix:Int,ix=(if lnIx lanes fid<lanes.length then (lnIx lanes fid:Int) else -1):=⟨_,rfl⟩
      rw [← hix] at hLn
      refine fn_of_run (by kernel_rfl) Tryz.func235 rfl (by kernel_rfl) ?_
      (repeat' first|(refine s_call (hLn) (h:=?_))|(refine p_call (hLn) (h:=?_))|(refine goU_ 2 ?_;((repeat' first|exact True.intro|refine Two.mk ?_ ?_);all_goals intros))|fail "")
      refine r_cut (fun _:Unit=>⟨[(2,.ptr 0 0 0 0),(3,.ptr 1 0 0 0),(4,.ptr 2 0 0 0),(6,.lit (.int .i64 ix))],[(0,some (.box 51 [.lit (.bool b0),.lit (.int .i64 space.Next),.ro (space.Sent.map encParcel),.lit (.int .i64 space.Top),.ro (space.Heard.map encRange),.ro (space.Skip.map encI),.lit (.int .i64 pace.Window),.lit (.int .i64 pace.Thresh),.lit (.int .i64 pace.Flying),.lit (.int .i64 pace.Since),.lit (.int .i64 flow.Max),.lit (.int .i64 flow.Used),.lit (.int .i64 credit.Max),.lit (.int .i64 credit.Used),.lit (.int .i64 ids),.lit (.int .i64 grant),.lit (.int .i64 opened),.ro (lanes.map encLane),.lit (.bool b1),.ro (queue.map encFrame),.lit (.int .i64 last),.lit (.int .i64 resets),.lit (.bool b2),.lit (.int .i64 code)])),(1,some (.box 111 [.lit (.int .i64 kd),.lit (.int .i64 fid),.lit (.int .i64 foff),.lit (.bool fin),.lit (.int .i64 fcode),.ro (frs.map encRange),.ro (fdata.map encB)])),(2,some (.box 51 [.lit (.bool false),.lit (.int .i64 0),.lit (.slice none 0 0),.lit (.int .i64 0),.lit (.slice none 0 0),.lit (.slice none 0 0),.lit (.int .i64 0),.lit (.int .i64 0),.lit (.int .i64 0),.lit (.int .i64 0),.lit (.int .i64 0),.lit (.int .i64 0),.lit (.int .i64 0),.lit (.int .i64 0),.lit (.int .i64 0),.lit (.int .i64 0),.lit (.int .i64 0),.lit (.slice none 0 0),.lit (.bool false),.lit (.slice none 0 0),.lit (.int .i64 0),.lit (.int .i64 0),.lit (.bool false),.lit (.int .i64 0)]))],3,Tryz.f235.ntmps⟩) (fun _=>True) ?_ ?_
      · (repeat' first|(refine go_ ?_;((repeat' first|exact True.intro|refine Two.mk ?_ ?_);all_goals intros))|fail "")
        all_goals first
          | (refine ⟨(),?_,?_⟩;rotate_left 1;(exact lessA_);(exact Z68_))
          | (exfalso;omega)
          | (exfalso;dsimp only at *;omega)
          | (exfalso;simp only [IntKind.wrap_i64] at *;omega)
          | skip
      rintro ⟨⟩ -
      clear hLn
      (repeat' first|(refine go_ ?_;((repeat' first|exact True.intro|refine Two.mk ?_ ?_);all_goals intros))|fail "")
      refine r_for (fun k:Nat=>⟨[(2,.ptr 0 0 0 0),(3,.ptr 1 0 0 0),(4,.ptr 2 0 0 0),(6,.lit (.int .i64 ix)),(61,.ro (queue.map encFrame)),(62,.lit (.int .i64 queue.length)),(63,.lit (.int .i64 k))],[(0,some (.box 51 [.lit (.bool b0),.lit (.int .i64 space.Next),.ro (space.Sent.map encParcel),.lit (.int .i64 space.Top),.ro (space.Heard.map encRange),.ro (space.Skip.map encI),.lit (.int .i64 pace.Window),.lit (.int .i64 pace.Thresh),.lit (.int .i64 pace.Flying),.lit (.int .i64 pace.Since),.lit (.int .i64 flow.Max),.lit (.int .i64 flow.Used),.lit (.int .i64 credit.Max),.lit (.int .i64 credit.Used),.lit (.int .i64 ids),.lit (.int .i64 grant),.lit (.int .i64 opened),.ro (lanes.map encLane),.lit (.bool b1),.ro (queue.map encFrame),.lit (.int .i64 last),.lit (.int .i64 resets),.lit (.bool b2),.lit (.int .i64 code)])),(1,some (.box 111 [.lit (.int .i64 kd),.lit (.int .i64 fid),.lit (.int .i64 foff),.lit (.bool fin),.lit (.int .i64 fcode),.ro (frs.map encRange),.ro (fdata.map encB)])),(2,some (.box 51 [.lit (.bool false),.lit (.int .i64 0),.lit (.slice none 0 0),.lit (.int .i64 0),.lit (.slice none 0 0),.lit (.slice none 0 0),.lit (.int .i64 0),.lit (.int .i64 0),.lit (.int .i64 0),.lit (.int .i64 0),.lit (.int .i64 0),.lit (.int .i64 0),.lit (.int .i64 0),.lit (.int .i64 0),.lit (.int .i64 0),.lit (.int .i64 0),.lit (.int .i64 0),.lit (.slice none 0 0),.lit (.bool false),.lit (.slice none 0 0),.lit (.int .i64 0),.lit (.int .i64 0),.lit (.bool false),.lit (.int .i64 0)]))],3,Tryz.f235.ntmps⟩)
        (fun k=>k≤queue.length ∧ ∀ i,i<k → ¬ ((queue.getD i default).Kind=kd∧(queue.getD i default).Id=fid)) (fun k=>queue.length - k) 0 ⟨Nat.zero_le _,fun i h=>by omega⟩ (by (exact lessA_)) ?_
      rintro k ⟨hk,hno⟩
      by_cases hkn:k<queue.length
      · by_cases he:(queue.getD k default).Kind=kd∧(queue.getD k default).Id=fid
        · rw [if_pos (yes_of ⟨k,hkn,he⟩)] at hR
          cases hR
          obtain ⟨e1,e2⟩:=he
          (repeat' first|(refine go_ ?_;((repeat' first|exact True.intro|refine Two.mk ?_ ?_);all_goals intros))|fail "")
          all_goals first
            | (exact endwA_)
            | (exfalso;omega)
            | (exfalso;dsimp only at *;omega)
            | (exfalso;simp only [IntKind.wrap_i64] at *;omega)
            | skip
        · (repeat' first|(refine go_ ?_;((repeat' first|exact True.intro|refine Two.mk ?_ ?_);all_goals intros))|fail "")
          all_goals first
            | (refine ⟨k+1,?_,?_,?_⟩;rotate_left 2;(exact lessA_);(exact Z69_);(exact Z13_))
            | (exfalso;omega)
            | (exfalso;dsimp only at *;omega)
            | (exfalso;simp only [IntKind.wrap_i64] at *;omega)
            | skip
      · have hkl:k=queue.length:=by omega
        subst hkl
        have hnq:¬ hasQ queue ⟨kd,fid,foff,fin,fcode,frs,fdata⟩:=fun ⟨i,hi,e⟩=>hno i hi e
        rw [if_neg (by rw [no_of hnq];exact Bool.false_ne_true)] at hR
        clear hno hkn hk hnq
        by_cases h16:kd=16
        · subst h16
          rw [if_neg (fun h=>by omega),if_pos rfl] at hR
          have hQd:=hQd ⟨16,fid,flow.Max,fin,fcode,frs,fdata⟩
          generalize qTell queue ⟨16,fid,flow.Max,fin,fcode,frs,fdata⟩=T at *
          obtain ⟨t1,t2⟩:=T
          unfold cnQ at hQd
          cases hR
          dsimp only at hQd
          (repeat' first|(refine s_call (hQd) (h:=?_))|(refine p_call (hQd) (h:=?_))|(refine go_ ?_;((repeat' first|exact True.intro|refine Two.mk ?_ ?_);all_goals intros))|fail "")
          all_goals first
            | (exact endwA_)
            | (exfalso;omega)
            | (exfalso;dsimp only at *;omega)
            | (exfalso;simp only [IntKind.wrap_i64] at *;omega)
            | skip
        · by_cases h18:kd=18
          · subst h18
            rw [if_neg (fun h=>by omega),if_neg (by omega),if_pos rfl] at hR
            have hQd:=hQd ⟨18,fid,grant,fin,fcode,frs,fdata⟩
            generalize qTell queue ⟨18,fid,grant,fin,fcode,frs,fdata⟩=T at *
            obtain ⟨t1,t2⟩:=T
            unfold cnQ at hQd
            cases hR
            dsimp only at hQd
            (repeat' first|(refine s_call (hQd) (h:=?_))|(refine p_call (hQd) (h:=?_))|(refine go_ ?_;((repeat' first|exact True.intro|refine Two.mk ?_ ?_);all_goals intros))|fail "")
            all_goals first
              | (exact endwA_)
              | (exfalso;omega)
              | (exfalso;dsimp only at *;omega)
              | (exfalso;simp only [IntKind.wrap_i64] at *;omega)
              | skip
          · by_cases h17:kd=17
            · subst h17
              rw [if_neg h16,if_neg h18,if_pos rfl] at hR
              by_cases hx:lnIx lanes fid<lanes.length
              · rw [if_pos hx] at hix
                subst hix
                generalize lnIx lanes fid=n at *
                cases hov:(lanes.getD n default).Over
                · rw [if_neg (fun h=>by rcases h.2 with h|h;omega;(rw [hov] at h;cases h))] at hR
                  have hQd:=hQd ⟨17,fid,(lanes.getD n default).In.Window,fin,fcode,frs,fdata⟩
                  generalize qTell queue ⟨17,fid,(lanes.getD n default).In.Window,fin,fcode,frs,fdata⟩=T at *
                  obtain ⟨t1,t2⟩:=T
                  unfold cnQ at hQd
                  cases hR
                  dsimp only at hQd
                  (repeat' first|(refine s_call (hQd) (h:=?_))|(refine p_call (hQd) (h:=?_))|(refine go_ ?_;((repeat' first|exact True.intro|refine Two.mk ?_ ?_);all_goals intros))|fail "")
                  all_goals (try rw [hov])
                  all_goals (first|done|((repeat' first|(refine s_call (hQd) (h:=?_))|(refine p_call (hQd) (h:=?_))|(refine go_ ?_;((repeat' first|exact True.intro|refine Two.mk ?_ ?_);all_goals intros))|fail ""))|skip)
                  all_goals first
                    | (exact endwA_)
                    | (exfalso;omega)
                    | (exfalso;dsimp only at *;omega)
                    | (exfalso;simp only [IntKind.wrap_i64] at *;omega)
                    | skip
                · rw [if_pos ⟨rfl,.inr hov⟩] at hR
                  cases hR
                  (repeat' first|(refine go_ ?_;((repeat' first|exact True.intro|refine Two.mk ?_ ?_);all_goals intros))|fail "")
                  all_goals (try rw [hov])
                  all_goals (first|done|((repeat' first|(refine go_ ?_;((repeat' first|exact True.intro|refine Two.mk ?_ ?_);all_goals intros))|fail ""))|skip)
                  all_goals first
                    | (exact endwA_)
                    | (exfalso;omega)
                    | (exfalso;dsimp only at *;omega)
                    | (exfalso;simp only [IntKind.wrap_i64] at *;omega)
                    | skip
              · rw [if_neg hx] at hix
                rw [if_pos ⟨rfl,.inl (by omega)⟩] at hR
                cases hR
                subst hix
                (repeat' first|(refine go_ ?_;((repeat' first|exact True.intro|refine Two.mk ?_ ?_);all_goals intros))|fail "")
                all_goals first
                  | (exact endwA_)
                  | (exfalso;omega)
                  | (exfalso;dsimp only at *;omega)
                  | (exfalso;simp only [IntKind.wrap_i64] at *;omega)
                  | skip
            · rw [if_neg (fun h=>h17 h.1),if_neg h16,if_neg h18,if_neg h17] at hR
              have hQd:=hQd ⟨kd,fid,foff,fin,fcode,frs,fdata⟩
              generalize qTell queue ⟨kd,fid,foff,fin,fcode,frs,fdata⟩=T at *
              obtain ⟨t1,t2⟩:=T
              unfold cnQ at hQd
              cases hR
              dsimp only at hQd
              (repeat' first|(refine s_call (hQd) (h:=?_))|(refine p_call (hQd) (h:=?_))|(refine go_ ?_;((repeat' first|exact True.intro|refine Two.mk ?_ ?_);all_goals intros))|fail "")
              all_goals first
                | (exact endwA_)
                | (exfalso;omega)
                | (exfalso;dsimp only at *;omega)
                | (exfalso;simp only [IntKind.wrap_i64] at *;omega)
                | skip
    · rw [if_neg hka] at hR
      unfold kAg at hka
      cases hR
      refine fn_of_run (by kernel_rfl) Tryz.func235 rfl (by kernel_rfl) ?_
      (repeat' first|(refine s_call (hLn) (h:=?_))|(refine p_call (hLn) (h:=?_))|(refine go_ ?_;((repeat' first|exact True.intro|refine Two.mk ?_ ?_);all_goals intros))|fail "")
      all_goals first
        | (exact endwA_)
        | (exfalso;omega)
        | (exfalso;dsimp only at *;omega)
        | (exfalso;simp only [IntKind.wrap_i64] at *;omega)
        | skip
set_option maxHeartbeats 16000000 in
theorem lostDone_fn (c:DConn) (l:List DParcel) (now:Int) (hw:wfConn c) (hls:okLs c.Lanes) (hl:c.Lanes.length≤4) (hq:c.Queue.length≤12) (hpl:l.length≤1000000) (hp:∀ y,y ∈ l→wfParcel y)
    (C:DConn) (e:Int) (hR:lostAll now c l=(C,e)) :
    Fn Tryz.prog 114 [.agg (encConn c),.ro (l.map encParcel),.lit (.int .i64 now)] (.tup [.agg (encConn C),.lit (.int .i64 e)]):=by
  obtain ⟨b0,space,pace,flow,credit,ids,grant,opened,lanes,b1,queue,last,resets,b2,code⟩:=c
  dsimp only at *
  refine fn_of_run (by kernel_rfl) Tryz.func114 rfl (by kernel_rfl) ?_
  (repeat' first|(refine go_ ?_;((repeat' first|exact True.intro|refine Two.mk ?_ ?_);all_goals intros))|fail "")
  refine r_for (fun x:Nat×DPace×List DLane×List DFrame=>⟨[(2,.lit (.int .i64 now)),(3,.ptr 0 0 0 0),(6,.ptr 1 0 0 0),(14,.ro (l.map encParcel)),(15,.lit (.int .i64 l.length)),(16,.lit (.int .i64 x.1))],[(0,some (.box 51 [.lit (.bool b0),.lit (.int .i64 space.Next),.ro (space.Sent.map encParcel),.lit (.int .i64 space.Top),.ro (space.Heard.map encRange),.ro (space.Skip.map encI),.lit (.int .i64 x.2.1.Window),.lit (.int .i64 x.2.1.Thresh),.lit (.int .i64 x.2.1.Flying),.lit (.int .i64 x.2.1.Since),.lit (.int .i64 flow.Max),.lit (.int .i64 flow.Used),.lit (.int .i64 credit.Max),.lit (.int .i64 credit.Used),.lit (.int .i64 ids),.lit (.int .i64 grant),.lit (.int .i64 opened),.ro (x.2.2.1.map encLane),.lit (.bool b1),.ro (x.2.2.2.map encFrame),.lit (.int .i64 last),.lit (.int .i64 resets),.lit (.bool b2),.lit (.int .i64 code)])),(1,some (.box 51 [.lit (.bool false),.lit (.int .i64 0),.lit (.slice none 0 0),.lit (.int .i64 0),.lit (.slice none 0 0),.lit (.slice none 0 0),.lit (.int .i64 0),.lit (.int .i64 0),.lit (.int .i64 0),.lit (.int .i64 0),.lit (.int .i64 0),.lit (.int .i64 0),.lit (.int .i64 0),.lit (.int .i64 0),.lit (.int .i64 0),.lit (.int .i64 0),.lit (.int .i64 0),.lit (.slice none 0 0),.lit (.bool false),.lit (.slice none 0 0),.lit (.int .i64 0),.lit (.int .i64 0),.lit (.bool false),.lit (.int .i64 0)]))],2,Tryz.f114.ntmps⟩)
    (fun x=>x.1≤l.length∧lostAll now ⟨b0,space,x.2.1,flow,credit,ids,grant,opened,x.2.2.1,b1,x.2.2.2,last,resets,b2,code⟩ (l.drop x.1)=(C,e)∧wfConn ⟨b0,space,x.2.1,flow,credit,ids,grant,opened,x.2.2.1,b1,x.2.2.2,last,resets,b2,code⟩∧okLs x.2.2.1∧x.2.2.1.length≤4∧x.2.2.2.length≤12) (fun x=>l.length - x.1) (0,pace,lanes,queue) ⟨Nat.zero_le _,hR,hw,hls,hl,hq⟩ (by (exact lessA_)) ?_
  clear hR hls hq hw hl
  rintro ⟨k,p,ls,q⟩ ⟨hk,hm,hw,hls,hll,hq⟩
  dsimp only at *
  by_cases hkn:k<l.length
  · rw [drop_cons hkn] at hm
    unfold lostAll at hm
    have hwp:=hp _ (getD_mem hkn)
    have hP:=paceLostRef_fn p hw.2.1 (min (l.getD k default).Size p.Flying) (l.getD k default).Time now
    rw [Int.min_comm] at hP
    unfold pcLs cnP at hm
    dsimp only at hm
    have hw2:=paceLost_wf p (min (l.getD k default).Size p.Flying) (l.getD k default).Time now hw.2.1
    rw [Int.min_comm] at hm hw2
    generalize paceLostV p (min p.Flying (l.getD k default).Size) (l.getD k default).Time now=PV at *
    obtain ⟨p2,pe⟩:=PV
    dsimp only at *
    have hwc:wfConn ⟨b0,space,p2,flow,credit,ids,grant,opened,ls,b1,q,last,resets,b2,code⟩:=⟨hw.1,hw2,hw.2.2⟩
    have hfl:(l.getD k default).Frames.length≤1000000000000000:=by have:=hwp.2.2.2.1;omega
    have hfw:=hwp.2.2.2.2
    generalize hLA:lossAll ⟨b0,space,p2,flow,credit,ids,grant,opened,ls,b1,q,last,resets,b2,code⟩ (l.getD k default).Frames=LA at *
    obtain ⟨C2,e2⟩:=LA
    clear hw hw2
    (repeat' first|(refine s_call (hP) (h:=?_))|(refine p_call (hP) (h:=?_))|(refine go_ ?_;((repeat' first|exact True.intro|refine Two.mk ?_ ?_);all_goals intros))|fail "")
    refine r_for (fun x:Nat×List DLane×List DFrame=>⟨[(2,.lit (.int .i64 now)),(3,.ptr 0 0 0 0),(6,.ptr 1 0 0 0),(14,.ro (l.map encParcel)),(15,.lit (.int .i64 l.length)),(16,.lit (.int .i64 k)),(37,.ro ((l.getD k default).Frames.map encFrame)),(38,.lit (.int .i64 (l.getD k default).Frames.length)),(39,.lit (.int .i64 x.1))],[(0,some (.box 51 [.lit (.bool b0),.lit (.int .i64 space.Next),.ro (space.Sent.map encParcel),.lit (.int .i64 space.Top),.ro (space.Heard.map encRange),.ro (space.Skip.map encI),.lit (.int .i64 p2.Window),.lit (.int .i64 p2.Thresh),.lit (.int .i64 p2.Flying),.lit (.int .i64 p2.Since),.lit (.int .i64 flow.Max),.lit (.int .i64 flow.Used),.lit (.int .i64 credit.Max),.lit (.int .i64 credit.Used),.lit (.int .i64 ids),.lit (.int .i64 grant),.lit (.int .i64 opened),.ro (x.2.1.map encLane),.lit (.bool b1),.ro (x.2.2.map encFrame),.lit (.int .i64 last),.lit (.int .i64 resets),.lit (.bool b2),.lit (.int .i64 code)])),(1,some (.box 51 [.lit (.bool false),.lit (.int .i64 0),.lit (.slice none 0 0),.lit (.int .i64 0),.lit (.slice none 0 0),.lit (.slice none 0 0),.lit (.int .i64 0),.lit (.int .i64 0),.lit (.int .i64 0),.lit (.int .i64 0),.lit (.int .i64 0),.lit (.int .i64 0),.lit (.int .i64 0),.lit (.int .i64 0),.lit (.int .i64 0),.lit (.int .i64 0),.lit (.int .i64 0),.lit (.slice none 0 0),.lit (.bool false),.lit (.slice none 0 0),.lit (.int .i64 0),.lit (.int .i64 0),.lit (.bool false),.lit (.int .i64 0)]))],2,Tryz.f114.ntmps⟩)
      (fun x=>x.1≤(l.getD k default).Frames.length∧lossAll ⟨b0,space,p2,flow,credit,ids,grant,opened,x.2.1,b1,x.2.2,last,resets,b2,code⟩ ((l.getD k default).Frames.drop x.1)=(C2,e2)∧wfConn ⟨b0,space,p2,flow,credit,ids,grant,opened,x.2.1,b1,x.2.2,last,resets,b2,code⟩∧okLs x.2.1∧x.2.1.length≤4∧x.2.2.length≤12) (fun x=>(l.getD k default).Frames.length - x.1) (0,ls,q) ⟨Nat.zero_le _,hLA,hwc,hls,hll,hq⟩ (by (exact lessA_)) ?_
    clear hLA hls hll hq hP hwc
    rintro ⟨j,ls,q⟩ ⟨hj,hm2,hw,hls,hll,hq⟩
    dsimp only at *
    by_cases hjn:j<(l.getD k default).Frames.length
    · rw [drop_cons hjn] at hm2
      unfold lossAll at hm2
      have hwf:=hfw _ (getD_mem hjn)
      have hRt:=retold_fn ⟨b0,space,p2,flow,credit,ids,grant,opened,ls,b1,q,last,resets,b2,code⟩ ((l.getD k default).Frames.getD j default) hls (by dsimp only;omega) hq hwf
      obtain ⟨a1,a2,a3,a4⟩:=loss_wf hw hls hll hq hwf
      generalize (l.getD k default).Frames=fs at *
      generalize lossR ⟨b0,space,p2,flow,credit,ids,grant,opened,ls,b1,q,last,resets,b2,code⟩ (fs.getD j default)=LR at *
      obtain ⟨rl,rq,re⟩:=LR
      unfold cnLQ at *
      dsimp only at *
      by_cases hre:re=0
      · subst hre
        rw [if_pos rfl] at hm2
        (repeat' first|(refine s_call (hRt) (h:=?_))|(refine p_call (hRt) (h:=?_))|(refine go_ ?_;((repeat' first|exact True.intro|refine Two.mk ?_ ?_);all_goals intros))|fail "")
        all_goals first
          | (refine ⟨(j+1,rl,rq),?_,?_,?_⟩;rotate_left 2;(exact lessA_);(exact Z66_);(focus (exact ⟨hjn,hm2,a1,a2,a3,a4⟩)))
          | (exfalso;omega)
          | (exfalso;dsimp only at *;omega)
          | (exfalso;simp only [IntKind.wrap_i64] at *;omega)
          | skip
      · rw [if_neg hre] at hm2
        cases hm2
        rw [if_neg hre] at hm
        cases hm
        (repeat' first|(refine s_call (hRt) (h:=?_))|(refine p_call (hRt) (h:=?_))|(refine go_ ?_;((repeat' first|exact True.intro|refine Two.mk ?_ ?_);all_goals intros))|fail "")
        all_goals first
          | (exact endwA_)
          | (exfalso;omega)
          | (exfalso;dsimp only at *;omega)
          | (exfalso;simp only [IntKind.wrap_i64] at *;omega)
          | skip
    · have hjl:j=(l.getD k default).Frames.length:=by omega
      subst hjl
      rw [List.drop_length] at hm2
      unfold lossAll at hm2
      cases hm2
      rw [if_pos rfl] at hm
      (repeat' first|(refine go_ ?_;((repeat' first|exact True.intro|refine Two.mk ?_ ?_);all_goals intros))|fail "")
      all_goals first
        | (refine ⟨(k+1,p2,ls,q),?_,?_,?_⟩;rotate_left 2;(exact lessA_);(exact Z66_);(focus (exact ⟨hkn,hm,hw,hls,hll,hq⟩)))
        | skip
  · have hkl:k=l.length:=by omega
    subst hkl
    rw [List.drop_length] at hm
    unfold lostAll at hm
    cases hm
    (repeat' first|(refine go_ ?_;((repeat' first|exact True.intro|refine Two.mk ?_ ?_);all_goals intros))|fail "")
    all_goals first
      | (exact endwA_)
      | skip
set_option maxHeartbeats 4000000 in
theorem shut_fn (c:DConn) (e:Int):Fn Tryz.prog 70 [.agg (encConn c),.lit (.int .i64 e)] (.agg (encConn (cnShut c e))):=by
  unfold cnShut
  generalize hZ:encConn { c with Closed:=true,Code:=e,Queue:=[clsF e],Lanes:=[],Owes:=false }=Z
  unfold encConn at hZ
  dsimp only at hZ
  subst hZ
  refine fn_of_run (by kernel_rfl) Tryz.func70 rfl (by kernel_rfl) ?_
  (repeat' first|refine s_i (hq:=q_nil_eql rfl rfl rfl rfl) (h:=?_)|(refine s_lit (h:=?_);refine l_less (less_roS 12 (l:=[clsRaw e]) (l':=[clsF e].map encFrame) rfl rfl (clsRaw_len e) (clsRaw_wk e)) ?_)|(refine goI_ ?_;((repeat' first|exact True.intro|refine Two.mk ?_ ?_);all_goals intros))|refine s_i (h:=?_)|refine s_i (hq:=q_index_ro rfl rfl rfl (by first|exact lit0|exact lit1|exact lit2|rfl) (by simp only [List.length_cons,List.length_nil];omega) rfl rfl rfl rfl) (h:=?_)|refine p_i (h:=?_)|refine p_ih (h:=?_)|refine s_lit (h:=?_)|refine p_lit (h:=?_)|refine p_lit0 (h:=?_)|refine s_lit0 (h:=?_)|refine s_ixa (h:=?_)|refine s_insert (h:=?_)|(refine s_sadd rfl ?_ (h:=?_);(exact Z9_))|(refine p_sadd rfl ?_ (h:=?_);(exact Z9_))|fail "")
  all_goals first
    | (exact endwA_)
    | skip
set_option maxHeartbeats 8000000 in
theorem connTicked_fn (c:DConn) (now:Int) (hu:W.wfConn c):Fn Tryz.prog 49 [.agg (encConn c),.lit (.int .i64 now)] (encCnE (tickR c now)):=by
  have hw:=W.wf_leConn c hu
  have h1:=connFault_fn c hu
  unfold tickR encCnE
  rcases cnFlt_cases c with ⟨h0,hok⟩ | ⟨h0,hok⟩
  · rw [h0] at h1 ⊢
    rw [if_pos rfl]
    by_cases hnow:0≤now∧now≤1099511627776
    · rw [if_pos hnow]
      have hnum:=hok.1.1.1.2
      unfold cnNum at hnum
      cases hcl:c.Closed
      · rw [if_neg Bool.false_ne_true]
        by_cases hid:60≤now - c.Last
        · rw [if_pos hid]
          have hS:=shut_fn c 16
          clear hu hw hok
          unfold cnShut at *
          unfold cnQ
          obtain ⟨b0,space,pace,flow,credit,ids,grant,opened,lanes,b1,queue,last,resets,b2,code⟩:=c
          dsimp only at *
          subst hcl
          refine fn_of_run (by kernel_rfl) Tryz.func49 rfl (by kernel_rfl) ?_
          (repeat' first|(refine s_call (h1) (h:=?_))|(refine p_call (h1) (h:=?_))|(refine s_call (hS) (h:=?_))|(refine p_call (hS) (h:=?_))|(refine s_dec (upTo_fn _ _) (ht:=?_) (hff:=?_) <;> intro _ <;> try (exfalso;omega))|(refine p_dec (upTo_fn _ _) (ht:=?_) (hff:=?_) <;> intro _ <;> try (exfalso;omega))|(refine go_ ?_;((repeat' first|exact True.intro|refine Two.mk ?_ ?_);all_goals intros))|fail "")
          all_goals (try dsimp only at *)
          all_goals first
            | (exact endwA_)
            | (exfalso;omega)
            | (exfalso;dsimp only at *;omega)
            | (exfalso;simp only [IntKind.wrap_i64] at *;omega)
            | skip
        · rw [if_neg hid]
          have hO:=overdueRef_fn c.Space now 8 hw.1
          obtain ⟨v1,v2,v3⟩:=spOver_wf c.Space now 8 hw.1
          have v4:=spOver_few c.Space now 8
          generalize spOver c.Space now 8=O at *
          obtain ⟨sp2,lost,oe⟩:=O
          dsimp only at *
          have hls:okLs c.Lanes:=fun y hy=>hu.2.2.2.2.2.2.2.2.1 y hy
          have hw2:wfConn (cnSp c sp2):=⟨v1,hw.2⟩
          have hLo:=lostDone_fn (cnSp c sp2) lost now hw2 hls (by have:=hnum;unfold cnSp;dsimp only;omega) (by unfold cnSp;dsimp only;omega) (by omega) v3
          generalize lostAll now (cnSp c sp2) lost=R at *
          obtain ⟨C,e⟩:=R
          have hLo:=hLo C e rfl
          have hS:=shut_fn C e
          dsimp only at *
          clear hu hw hok hw2 v1 v2 v3 v4
          unfold cnSp at hLo
          obtain ⟨b0,space,pace,flow,credit,ids,grant,opened,lanes,b1,queue,last,resets,b2,code⟩:=c
          dsimp only at *
          subst hcl
          by_cases he:e=0
          · subst he
            rw [if_pos rfl]
            refine fn_of_run (by kernel_rfl) Tryz.func49 rfl (by kernel_rfl) ?_
            (repeat' first|(refine s_call (h1) (h:=?_))|(refine p_call (h1) (h:=?_))|(refine s_call (hO) (h:=?_))|(refine p_call (hO) (h:=?_))|(refine s_call (hLo) (h:=?_))|(refine p_call (hLo) (h:=?_))|(refine s_dec (upTo_fn _ _) (ht:=?_) (hff:=?_) <;> intro _ <;> try (exfalso;omega))|(refine p_dec (upTo_fn _ _) (ht:=?_) (hff:=?_) <;> intro _ <;> try (exfalso;omega))|(refine go_ ?_;((repeat' first|exact True.intro|refine Two.mk ?_ ?_);all_goals intros))|fail "")
            all_goals (try dsimp only at *)
            all_goals first
              | (exact endwA_)
              | (exfalso;omega)
              | (exfalso;dsimp only at *;omega)
              | (exfalso;simp only [IntKind.wrap_i64] at *;omega)
              | skip
          · rw [if_neg he]
            refine fn_of_run (by kernel_rfl) Tryz.func49 rfl (by kernel_rfl) ?_
            (repeat' first|(refine s_call (h1) (h:=?_))|(refine p_call (h1) (h:=?_))|(refine s_call (hO) (h:=?_))|(refine p_call (hO) (h:=?_))|(refine s_call (hLo) (h:=?_))|(refine p_call (hLo) (h:=?_))|(refine s_call (hS) (h:=?_))|(refine p_call (hS) (h:=?_))|(refine s_dec (upTo_fn _ _) (ht:=?_) (hff:=?_) <;> intro _ <;> try (exfalso;omega))|(refine p_dec (upTo_fn _ _) (ht:=?_) (hff:=?_) <;> intro _ <;> try (exfalso;omega))|(refine go_ ?_;((repeat' first|exact True.intro|refine Two.mk ?_ ?_);all_goals intros))|fail "")
            all_goals (try dsimp only at *)
            all_goals first
              | (exact endwA_)
              | (exfalso;omega)
              | (exfalso;dsimp only at *;omega)
              | (exfalso;simp only [IntKind.wrap_i64] at *;omega)
              | skip
      · rw [if_pos rfl]
        clear hu hw hok
        obtain ⟨b0,space,pace,flow,credit,ids,grant,opened,lanes,b1,queue,last,resets,b2,code⟩:=c
        dsimp only at *
        subst hcl
        refine fn_of_run (by kernel_rfl) Tryz.func49 rfl (by kernel_rfl) ?_
        (repeat' first|(refine s_call (h1) (h:=?_))|(refine p_call (h1) (h:=?_))|(refine s_dec (upTo_fn _ _) (ht:=?_) (hff:=?_) <;> intro _ <;> try (exfalso;omega))|(refine p_dec (upTo_fn _ _) (ht:=?_) (hff:=?_) <;> intro _ <;> try (exfalso;omega))|(refine go_ ?_;((repeat' first|exact True.intro|refine Two.mk ?_ ?_);all_goals intros))|fail "")
        all_goals (try dsimp only at *)
        all_goals first
          | (exact endwA_)
          | (exfalso;omega)
          | (exfalso;dsimp only at *;omega)
          | (exfalso;simp only [IntKind.wrap_i64] at *;omega)
          | skip
    · rw [if_neg hnow]
      clear hu hw hok
      refine fn_of_run (by kernel_rfl) Tryz.func49 rfl (by kernel_rfl) ?_
      (repeat' first|(refine s_call (h1) (h:=?_))|(refine p_call (h1) (h:=?_))|(refine s_dec (upTo_fn _ _) (ht:=?_) (hff:=?_) <;> intro _ <;> try (exfalso;omega))|(refine p_dec (upTo_fn _ _) (ht:=?_) (hff:=?_) <;> intro _ <;> try (exfalso;omega))|(refine go_ ?_;((repeat' first|exact True.intro|refine Two.mk ?_ ?_);all_goals intros))|fail "")
      all_goals (try dsimp only at *)
      all_goals first
        | (exact endwA_)
        | (exfalso;omega)
        | (exfalso;dsimp only at *;omega)
        | (exfalso;simp only [IntKind.wrap_i64] at *;omega)
        | skip
  · rw [h0] at h1 ⊢
    rw [if_neg (by decide)]
    clear hu hw hok
    refine fn_of_run (by kernel_rfl) Tryz.func49 rfl (by kernel_rfl) ?_
    (repeat' first|(refine s_call (h1) (h:=?_))|(refine p_call (h1) (h:=?_))|(refine go_ ?_;((repeat' first|exact True.intro|refine Two.mk ?_ ?_);all_goals intros))|fail "")
    all_goals first
      | (exact endwA_)
      | skip
end Go.Proofs.YtendheafcbickaaGreat
