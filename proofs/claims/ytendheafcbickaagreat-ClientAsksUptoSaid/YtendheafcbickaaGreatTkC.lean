
import Derived.Test.YtendheafcbickaaGreatZip
import Derived.Test.YtendheafcbickaaGreatGo
import Derived.Test.YtendheafcbickaaGreatMg23
set_option linter.unusedVariables false
set_option linter.unusedSimpArgs false
set_option linter.unusedVariables false
namespace Go.Proofs.YtendheafcbickaaGreat
set_option maxRecDepth 100000
attribute [local irreducible] Run RunL QStep GStep Fn Less PL FnM
theorem paceLost_wf (p:DPace) (n s t:Int) (hw:wfPace p):wfPace (paceLostV p n s t).1:=by
  unfold paceLostV
  split
  · unfold wfPace I64;dsimp only;omega
  · rename_i h
    obtain ⟨ho,hl⟩:=paceArg_ok (p:=p) (l:=[n,s,t]) (by omega)
    have ha:=hl n (by simp)
    have hb:=hl s (by simp)
    have hc:=hl t (by simp)
    unfold inM at ha hb hc
    unfold paceOk at ho
    unfold wfPace I64 at hw
    split
    · unfold wfPace I64;dsimp only;omega
    · split
      · unfold wfPace I64;dsimp only;omega
      · unfold wfPace I64;dsimp only;omega
theorem wOff_wf {f:DFrame} {n:Int} (hf:wfFrame f) (h:I64 n):wfFrame (wOff f n):=⟨hf.1,hf.2.1,h,hf.2.2.2.1,hf.2.2.2.2.1,hf.2.2.2.2.2.1,hf.2.2.2.2.2.2⟩
theorem agF_wf {c:DConn} {f:DFrame} (hw:wfConn c) (hf:wfFrame f) (hx:f.Kind=17→lnIx c.Lanes f.Id<c.Lanes.length):wfFrame (agF c f):=by
  unfold agF
  split
  · exact wOff_wf hf hw.2.2.1.1
  · split
    · exact wOff_wf hf hw.2.2.2.2.2.1
    · split
      · rename_i h
        have:=hw.2.2.2.2.2.2.2.2.1 _ (getD_mem (hx h))
        exact wOff_wf hf this.2.1.2.2.2.2
      · exact hf
theorem again_wf {c:DConn} {f:DFrame} (hw:wfConn c) (hf:wfFrame f):∀ y,y ∈ (againR c f).1→wfFrame y:=by
  have hqw:=hw.2.2.2.2.2.2.2.2.2.2.1
  have hle:=lnIx_le c.Lanes f.Id
  unfold againR
  split
  · exact hqw
  · split
    · exact hqw
    · rename_i h
      exact qTell_wf _ _ hqw (agF_wf hw hf (fun h17=>by
        rcases Nat.lt_or_ge (lnIx c.Lanes f.Id) c.Lanes.length with h1|h1
        · exact h1
        · exact absurd ⟨h17,.inl (by omega)⟩ h))
theorem loss_wf {c:DConn} {f:DFrame} (hw:wfConn c) (hls:okLs c.Lanes) (h4:c.Lanes.length≤4) (hq:c.Queue.length≤12) (hf:wfFrame f) :
    wfConn (cnLQ c (lossR c f).1 (lossR c f).2.1)∧okLs (lossR c f).1∧(lossR c f).1.length≤4∧(lossR c f).2.1.length≤12:=by
  have hw':=hw
  obtain ⟨w0,w1,w2,w3,w4,w5,w6,w7,w8,w9,w10,w11,w12,w13⟩:=hw'
  have same:wfConn (cnLQ c c.Lanes c.Queue)∧okLs c.Lanes∧c.Lanes.length≤4∧c.Queue.length≤12:=⟨hw,hls,h4,hq⟩
  unfold lossR
  split
  · split
    · rename_i hx
      split
      · rename_i h0
        have hs:=lostR_U (hls _ (getD_mem hx)).2.2.2 h0
        have hl:=set_okLs hls hx hs
        exact ⟨⟨w0,w1,w2,w3,w4,w5,w6,by unfold cnLQ;dsimp only;rw [List.length_set];exact w7,fun y hy=>W.wf_leLane y (hl y hy),w9,w10,w11,w12,w13⟩,hl,by dsimp only;rw [List.length_set];exact h4,hq⟩
      · exact same
    · exact same
  · split
    · have a1:=again_len (c:=c) (f:=f) hq
      have a2:=again_wf hw hf
      exact ⟨⟨w0,w1,w2,w3,w4,w5,w6,w7,w8,by unfold cnLQ;dsimp only;omega,a2,w11,w12,w13⟩,hls,h4,a1⟩
    · exact same
theorem lossAll_wf:∀ (l:List DFrame) {c:DConn},wfConn c→okLs c.Lanes→c.Lanes.length≤4→c.Queue.length≤12→(∀ f ∈ l,wfFrame f)→wfConn (lossAll c l).1∧okLs (lossAll c l).1.Lanes∧(lossAll c l).1.Lanes.length≤4∧(lossAll c l).1.Queue.length≤12
  | [],c,hw,hls,h4,hq,_=>⟨hw,hls,h4,hq⟩
  | f :: l,c,hw,hls,h4,hq,hf=>by
    unfold lossAll
    split
    · obtain ⟨a1,a2,a3,a4⟩:=loss_wf hw hls h4 hq (hf f List.mem_cons_self)
      exact lossAll_wf l a1 a2 a3 a4 (fun g hg=>hf g (List.mem_cons_of_mem _ hg))
    · exact ⟨hw,hls,h4,hq⟩
theorem lostAll_wf {now:Int}:∀ (l:List DParcel) {c:DConn},wfConn c→okLs c.Lanes→c.Lanes.length≤4→c.Queue.length≤12→(∀ p ∈ l,wfParcel p)→wfConn (lostAll now c l).1∧okLs (lostAll now c l).1.Lanes∧(lostAll now c l).1.Lanes.length≤4∧(lostAll now c l).1.Queue.length≤12
  | [],c,hw,hls,h4,hq,_=>⟨hw,hls,h4,hq⟩
  | p :: l,c,hw,hls,h4,hq,hp=>by
    have hpp:=(hp p List.mem_cons_self).2.2.2.2
    have hw2:wfConn (cnP c (pcLs c p now)):=⟨hw.1,paceLost_wf _ _ _ _ hw.2.1,hw.2.2⟩
    obtain ⟨a1,a2,a3,a4⟩:=lossAll_wf p.Frames hw2 hls h4 hq hpp
    unfold lostAll
    split
    · exact lostAll_wf l a1 a2 a3 a4 (fun g hg=>hp g (List.mem_cons_of_mem _ hg))
    · exact ⟨a1,a2,a3,a4⟩
theorem spOver_few (s:DSpace) (now age:Int):(spOver s now age).2.1.length≤24:=by
  unfold spOver
  rcases spFlt_cases s with ⟨h0,ho⟩ | ⟨h0,ho⟩
  · rw [h0,if_neg (by omega)]
    split
    · simp
    · have:=List.length_filter_le (late now age) s.Sent
      have:=ho.1.1.2.2.2.2.1
      dsimp only;omega
  · rw [h0,if_pos (by omega)];simp
theorem lossErr (c:DConn) (f:DFrame):I64 (lossR c f).2.2:=by
  unfold lossR
  split
  · split
    · split
      · unfold I64;dsimp only;omega
      · dsimp only
        unfold lostR
        split
        · rcases partFlt_cases (lnOf c f.Id).Out f.Off f.Data.length f.Fin with ⟨h0,e⟩ | ⟨_,h,h',e⟩ | ⟨h0,hok,hp,e⟩ <;> (rw [e];unfold I64;dsimp only;first|omega|(have:=sndFlt_cases (lnOf c f.Id).Out;omega))
        · unfold I64;dsimp only;omega
    · unfold I64;dsimp only;omega
  · split
    · dsimp only
      unfold againR
      split
      · unfold I64;dsimp only;omega
      · split
        · unfold I64;dsimp only;omega
        · unfold qTell
          split
          · unfold I64;dsimp only;omega
          · split <;> (unfold I64;dsimp only;omega)
    · unfold I64;dsimp only;omega
theorem lossAllErr:∀ (l:List DFrame) (c:DConn),I64 (lossAll c l).2
  | [],c=>by unfold lossAll I64;dsimp only;omega
  | f :: l,c=>by
    unfold lossAll
    split
    · exact lossAllErr l _
    · exact lossErr c f
theorem lostErr {now:Int}:∀ (l:List DParcel) (c:DConn),I64 (lostAll now c l).2
  | [],c=>by unfold lostAll I64;dsimp only;omega
  | p :: l,c=>by
    unfold lostAll
    split
    · exact lostErr l _
    · exact lossAllErr _ _
theorem shut_wf {c:DConn} {e:Int} (hw:wfConn c) (he:I64 e):wfConn (cnShut c e):=by
  obtain ⟨w0,w1,w2,w3,w4,w5,w6,w7,w8,w9,w10,w11,w12,w13⟩:=hw
  refine ⟨w0,w1,w2,w3,w4,w5,w6,by unfold cnShut;simp,(fun y hy=>by cases hy),by unfold cnShut;simp,fun y hy=>?_,w11,w12,he⟩
  have hy:y ∈ [clsF e]:=hy
  rw [List.mem_singleton] at hy
  subst hy
  unfold clsF wfFrame
  exact ⟨by unfold I64;dsimp only;omega,by unfold I64;dsimp only;omega,by unfold I64;dsimp only;omega,he,by simp,(fun y hy=>by cases hy),by simp⟩
def clsRaw (e:Int):List V:=[.lit (.int .i64 28),.lit (.int .i64 0),.lit (.int .i64 0),.lit (.bool false),.lit (.int .i64 e),.lit (.slice none 0 0),.lit (.slice none 0 0)]
theorem clsRaw_wk (e:Int):∀ i j,i<[clsRaw e].length→j<(eAt [clsRaw e] i).length→WkC (cAt (eAt [clsRaw e] i) j) (cAt (eAt ([clsF e].map encFrame) i) j):=by
  intro i j hi hj
  obtain rfl:i=0:=by simp at hi;omega
  have hj:j<7:=hj
  match j,hj with
  | 0,_|1,_|2,_|3,_|4,_=>exact .inl rfl
  | 5,_|6,_=>exact .inr ⟨rfl,rfl⟩
  | n+7,h=>omega
theorem clsRaw_len (e:Int):∀ i,i<[clsRaw e].length→(eAt ([clsF e].map encFrame) i).length=(eAt [clsRaw e] i).length:=by
  intro i hi
  obtain rfl:i=0:=by simp at hi;omega
  rfl
set_option maxHeartbeats 4000000 in
theorem endClose_fnm (c:DConn) (e:Int) :
    FnM Tryz.prog 65 [.ptr 0 0 0 0,.lit (.int .i64 e)] [(0,some (.box 116 (connC c (.own 1) (.own 2))))] 3
      (.tup []) [(0,some (.box 116 [.lit (.bool c.Client),.lit (.int .i64 c.Space.Next),.ro (c.Space.Sent.map encParcel),.lit (.int .i64 c.Space.Top),.ro (c.Space.Heard.map encRange),.ro (c.Space.Skip.map encI),.lit (.int .i64 c.Pace.Window),.lit (.int .i64 c.Pace.Thresh),.lit (.int .i64 c.Pace.Flying),.lit (.int .i64 c.Pace.Since),.lit (.int .i64 c.Flow.Max),.lit (.int .i64 c.Flow.Used),.lit (.int .i64 c.Credit.Max),.lit (.int .i64 c.Credit.Used),.lit (.int .i64 c.Ids),.lit (.int .i64 c.Grant),.lit (.int .i64 c.Opened),.lit (.slice none 0 0),.lit (.bool false),.ro ([clsF e].map encFrame),.lit (.int .i64 c.Last),.lit (.int .i64 c.Resets),.lit (.bool true),.lit (.int .i64 e)]))] 3:=by
  unfold connC
  refine fnm_of_run (by kernel_rfl) Tryz.func65 rfl (by kernel_rfl) (by rfl) ?_
  (repeat' first|refine s_i (hq:=q_nil_eql rfl rfl rfl rfl) (h:=?_)|(refine s_lit (h:=?_);refine l_less (less_roS 16 (l:=[clsRaw e]) (l':=[clsF e].map encFrame) rfl rfl (clsRaw_len e) (clsRaw_wk e)) ?_)|(refine goI_ ?_;((repeat' first|exact True.intro|refine Two.mk ?_ ?_);all_goals intros))|refine s_i (h:=?_)|refine s_i (hq:=q_index_ro rfl rfl rfl (by first|exact lit0|exact lit1|exact lit2|rfl) (by simp only [List.length_cons,List.length_nil];omega) rfl rfl rfl rfl) (h:=?_)|refine p_i (h:=?_)|refine p_ih (h:=?_)|refine s_lit (h:=?_)|refine p_lit (h:=?_)|refine p_lit0 (h:=?_)|refine s_lit0 (h:=?_)|refine s_ixa (h:=?_)|refine s_insert (h:=?_)|(refine s_sadd rfl ?_ (h:=?_);(exact Z9_))|(refine p_sadd rfl ?_ (h:=?_);(exact Z9_))|fail "")
  all_goals first
    | (exact endmA_)
    | skip
set_option maxHeartbeats 16000000 in
theorem connTick_fn (c:DConn) (now:Int) (hu:W.wfConn c):Fn Tryz.prog 48 [.agg (encConn c),.lit (.int .i64 now)] (encCnE (tickR c now)):=by
  have hw:=W.wf_leConn c hu
  have h1:=connCheck_fn c hw
  have hF:=cfresh_fnm c hw
  unfold tickR encCnE
  rcases cnFlt_cases c with ⟨h0,hok⟩ | ⟨h0,hok⟩
  · rw [h0] at h1 ⊢
    rw [if_pos rfl]
    by_cases hnow:0≤now∧now≤1099511627776
    · rw [if_pos hnow]
      have hnum:=hok.1.1.1.2
      unfold cnNum at hnum
      cases hcl:c.Closed
      · rw [if_neg Bool.false_ne_true]
        by_cases hid:60≤now - c.Last
        · rw [if_pos hid]
          have hC:=endClose_fnm c 16
          clear hu hw hok
          unfold cnShut cnQ
          unfold connC at *
          obtain ⟨b0,space,pace,flow,credit,ids,grant,opened,lanes,b1,queue,last,resets,b2,code⟩:=c
          dsimp only at *
          subst hcl
          refine fn_of_run (by kernel_rfl) Tryz.func48 rfl (by kernel_rfl) ?_
          (repeat' first|(refine s_call (h1) (h:=?_))|(refine p_call (h1) (h:=?_))|(refine s_callM [] (hF) (h:=?_))|(refine s_callM [4,2,3] (hC) (h:=?_))|(refine p_callM [4,2,3] (hC) (h:=?_))|(refine go_ ?_;((repeat' first|exact True.intro|refine Two.mk ?_ ?_);all_goals intros))|fail "")
          all_goals (try dsimp only at *)
          all_goals first
            | (exact endwA_)
            | (exfalso;omega)
            | skip
        · rw [if_neg hid]
          have hO:=overdue_fn c.Space now 8 hw.1
          obtain ⟨v1,v2,v3⟩:=spOver_wf c.Space now 8 hw.1
          have v4:=spOver_few c.Space now 8
          generalize spOver c.Space now 8=O at *
          obtain ⟨sp2,lost,oe⟩:=O
          dsimp only at *
          have hls:okLs c.Lanes:=fun y hy=>hu.2.2.2.2.2.2.2.2.1 y hy
          have hw2:wfConn (cnSp c sp2):=⟨v1,hw.2⟩
          obtain ⟨a1,a2,a3,a4⟩:=lostAll_wf (now:=now) lost hw2 hls (by have:=hnum;unfold cnSp;dsimp only;omega) (by unfold cnSp;dsimp only;omega) v3
          have hLo:=endLost_fnm (cnSp c sp2) lost now hls (by unfold cnSp;dsimp only;omega) (by unfold cnSp;dsimp only;omega) (by omega) v3
          generalize hR0:lostAll now (cnSp c sp2) lost=R at *
          obtain ⟨C,e⟩:=R
          have hLo:=hLo C e rfl
          dsimp only at *
          by_cases he:e=0
          · subst he
            rw [if_pos rfl]
            have hLo:=hLo _ (.inl ⟨rfl,rfl⟩)
            have hF3:=cfresh_fnm C a1
            clear hu hw hok hw2 a1 a2 a3 a4 v1 v2 v3 v4
            unfold cnSp connC at *
            obtain ⟨b0,space,pace,flow,credit,ids,grant,opened,lanes,b1,queue,last,resets,b2,code⟩:=c
            dsimp only at *
            subst hcl
            refine fn_of_run (by kernel_rfl) Tryz.func48 rfl (by kernel_rfl) ?_
            (repeat' first|(refine s_call (h1) (h:=?_))|(refine p_call (h1) (h:=?_))|(refine s_callM [] (hF) (h:=?_))|(refine s_call (hO) (h:=?_))|(refine p_call (hO) (h:=?_))|(refine s_callM [4,2,3] (hLo) (h:=?_))|(refine p_callM [4,2,3] (hLo) (h:=?_))|(refine goU_ 18 ?_;((repeat' first|exact True.intro|refine Two.mk ?_ ?_);all_goals intros))|fail "")
            all_goals (try (exfalso;omega))
            refine r_less (st':=⟨[(4,.ptr 0 0 0 0),(7,.ptr 1 0 0 0)],[(0,some (.box 51 [.lit (.bool false),.lit (.int .i64 0),.lit (.slice none 0 0),.lit (.int .i64 0),.lit (.slice none 0 0),.lit (.slice none 0 0),.lit (.int .i64 0),.lit (.int .i64 0),.lit (.int .i64 0),.lit (.int .i64 0),.lit (.int .i64 0),.lit (.int .i64 0),.lit (.int .i64 0),.lit (.int .i64 0),.lit (.int .i64 0),.lit (.int .i64 0),.lit (.int .i64 0),.lit (.slice none 0 0),.lit (.bool false),.lit (.slice none 0 0),.lit (.int .i64 0),.lit (.int .i64 0),.lit (.bool false),.lit (.int .i64 0)])),(1,some (.box 116 [.lit (.bool C.Client),.lit (.int .i64 C.Space.Next),.ro (C.Space.Sent.map encParcel),.lit (.int .i64 C.Space.Top),.ro (C.Space.Heard.map encRange),.ro (C.Space.Skip.map encI),.lit (.int .i64 C.Pace.Window),.lit (.int .i64 C.Pace.Thresh),.lit (.int .i64 C.Pace.Flying),.lit (.int .i64 C.Pace.Since),.lit (.int .i64 C.Flow.Max),.lit (.int .i64 C.Flow.Used),.lit (.int .i64 C.Credit.Max),.lit (.int .i64 C.Credit.Used),.lit (.int .i64 C.Ids),.lit (.int .i64 C.Grant),.lit (.int .i64 C.Opened),.ro (C.Lanes.map encLane),.lit (.bool C.Owes),.ro (C.Queue.map encFrame),.lit (.int .i64 C.Last),.lit (.int .i64 C.Resets),.lit (.bool C.Closed),.lit (.int .i64 C.Code)]))],2,Tryz.f48.ntmps⟩) (by (exact lessA_)) ?_
            (repeat' first|(refine s_callM [] (hF3) (h:=?_))|(refine go_ ?_;((repeat' first|exact True.intro|refine Two.mk ?_ ?_);all_goals intros))|fail "")
            all_goals (try dsimp only at *)
            all_goals first
              | (exact endwA_)
              | (exfalso;omega)
              | skip
          · rw [if_neg he]
            have hLo:=hLo _ (.inr ⟨he,rfl⟩)
            have hC:=endClose_fnm C e
            have hF3:=fun h=>cfresh_fnm (cnShut C e) h
            have hwe:I64 e:=by have:=lostErr (now:=now) lost (cnSp c sp2);rw [hR0] at this;exact this
            have hF3:=hF3 (shut_wf a1 hwe)
            clear hu hw hok hw2 a1 a2 a3 a4 v1 v2 v3 v4
            unfold cnShut at *
            unfold cnSp connC at *
            obtain ⟨b0,space,pace,flow,credit,ids,grant,opened,lanes,b1,queue,last,resets,b2,code⟩:=c
            dsimp only at *
            subst hcl
            refine fn_of_run (by kernel_rfl) Tryz.func48 rfl (by kernel_rfl) ?_
            (repeat' first|(refine s_call (h1) (h:=?_))|(refine p_call (h1) (h:=?_))|(refine s_callM [] (hF) (h:=?_))|(refine s_call (hO) (h:=?_))|(refine p_call (hO) (h:=?_))|(refine s_callM [4,2,3] (hLo) (h:=?_))|(refine p_callM [4,2,3] (hLo) (h:=?_))|(refine s_callM [4,2,6] (hC) (h:=?_))|(refine p_callM [4,2,6] (hC) (h:=?_))|(refine s_callM [] (hF3) (h:=?_))|(refine go_ ?_;((repeat' first|exact True.intro|refine Two.mk ?_ ?_);all_goals intros))|fail "")
            all_goals (try dsimp only at *)
            all_goals first
              | (exact endwA_)
              | (exfalso;omega)
              | skip
      · rw [if_pos rfl]
        clear hu hw hok
        unfold connC at *
        obtain ⟨b0,space,pace,flow,credit,ids,grant,opened,lanes,b1,queue,last,resets,b2,code⟩:=c
        dsimp only at *
        subst hcl
        refine fn_of_run (by kernel_rfl) Tryz.func48 rfl (by kernel_rfl) ?_
        (repeat' first|(refine s_call (h1) (h:=?_))|(refine p_call (h1) (h:=?_))|(refine s_callM [] (hF) (h:=?_))|(refine go_ ?_;((repeat' first|exact True.intro|refine Two.mk ?_ ?_);all_goals intros))|fail "")
        all_goals (try dsimp only at *)
        all_goals first
          | (exact endwA_)
          | (exfalso;omega)
          | skip
    · rw [if_neg hnow]
      clear hu hw hok
      refine fn_of_run (by kernel_rfl) Tryz.func48 rfl (by kernel_rfl) ?_
      (repeat' first|(refine s_call (h1) (h:=?_))|(refine p_call (h1) (h:=?_))|(refine go_ ?_;((repeat' first|exact True.intro|refine Two.mk ?_ ?_);all_goals intros))|fail "")
      all_goals (try dsimp only at *)
      all_goals first
        | (exact endwA_)
        | (exfalso;omega)
        | skip
  · rw [h0] at h1 ⊢
    rw [if_neg (by decide)]
    clear hu hw hok
    refine fn_of_run (by kernel_rfl) Tryz.func48 rfl (by kernel_rfl) ?_
    (repeat' first|(refine s_call (h1) (h:=?_))|(refine p_call (h1) (h:=?_))|(refine go_ ?_;((repeat' first|exact True.intro|refine Two.mk ?_ ?_);all_goals intros))|fail "")
    all_goals first
      | (exact endwA_)
      | skip
end Go.Proofs.YtendheafcbickaaGreat
