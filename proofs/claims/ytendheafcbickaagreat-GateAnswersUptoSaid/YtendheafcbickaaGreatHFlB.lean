
import Derived.Test.YtendheafcbickaaGreatHZip
import Derived.Test.YtendheafcbickaaGreatHGo
import Derived.Test.YtendheafcbickaaGreatHMg38
set_option linter.unusedVariables false
set_option linter.unusedSimpArgs false
set_option linter.unusedVariables false
namespace Go.Proofs.YtendheafcbickaaGreat
set_option maxRecDepth 100000
attribute [local irreducible] Run RunL QStep GStep Fn Less PL FnM
set_option maxHeartbeats 4000000 in
theorem endLast_fnm (c:DConn) (hw:wfConn c) (hcl:c.Closed=true):FnM Tryz.prog 206 [.ptr 0 0 0 0] [(0,some (.box 116 (encConn c)))] 1 (encFl (quietR c c.Queue)) [] 1:=by
  have h1:=quiet_fn c.Space hw.1
  have hws:=spQuiet_wf c.Space hw.1
  have h2:=cframes_fn c.Queue hw.2.2.2.2.2.2.2.2.2.2.1 hw.2.2.2.2.2.2.2.2.2.1
  have hF:=cfresh_fnm { c with Space:=(spQuiet c.Space).1,Owes:=false,Queue:=[] } ⟨hws,hw.2.1,hw.2.2.1,hw.2.2.2.1,hw.2.2.2.2.1,hw.2.2.2.2.2.1,hw.2.2.2.2.2.2.1,hw.2.2.2.2.2.2.2.1,hw.2.2.2.2.2.2.2.2.1,by simp,(fun y hy=>by cases hy),hw.2.2.2.2.2.2.2.2.2.2.2⟩
  clear hw hws
  unfold quietR encFl
  rw [hcl,if_pos rfl]
  generalize spQuiet c.Space=Q at *
  obtain ⟨s,n,e⟩:=Q
  obtain ⟨b0,space,pace,flow,credit,ids,grant,opened,lanes,b1,queue,last,resets,b2,code⟩:=c
  dsimp only at *
  subst hcl
  by_cases hq:queue.length=0
  · rw [if_pos hq]
    refine fnm_of_run (by kernel_rfl) Tryz.func206 rfl (by kernel_rfl) (by rfl) ?_
    (repeat' first|(refine go_ ?_;((repeat' first|exact True.intro|refine Two.mk ?_ ?_);all_goals intros))|fail "")
    all_goals (try dsimp only at *)
    all_goals first
      | (exact endmA_)
      | (exfalso;omega)
      | skip
  · rw [if_neg hq]
    by_cases he:e=0
    · subst he
      rw [if_pos rfl]
      unfold connC at hF
      refine fnm_of_run (by kernel_rfl) Tryz.func206 rfl (by kernel_rfl) (by rfl) ?_
      (repeat' first|(refine s_call (h1) (h:=?_))|(refine p_call (h1) (h:=?_))|(refine s_call (h2) (h:=?_))|(refine p_call (h2) (h:=?_))|(refine s_callM [] (hF) (h:=?_))|(refine go_ ?_;((repeat' first|exact True.intro|refine Two.mk ?_ ?_);all_goals intros))|fail "")
      all_goals (try dsimp only at *)
      all_goals first
        | (exact endmA_)
        | (exfalso;omega)
        | skip
    · rw [if_neg he]
      refine fnm_of_run (by kernel_rfl) Tryz.func206 rfl (by kernel_rfl) (by rfl) ?_
      (repeat' first|(refine s_call (h1) (h:=?_))|(refine p_call (h1) (h:=?_))|(refine go_ ?_;((repeat' first|exact True.intro|refine Two.mk ?_ ?_);all_goals intros))|fail "")
      all_goals (try dsimp only at *)
      all_goals first
        | (exact endmA_)
        | (exfalso;omega)
        | skip
def ackRaw (l:List DRange):List V:=[.lit (.int .i64 2),.lit (.int .i64 0),.lit (.int .i64 0),.lit (.bool false),.lit (.int .i64 0),.ro (l.reverse.map encRange),.lit (.slice none 0 0)]
theorem ackRaw_wk (l:List DRange):∀ i j,i<[ackRaw l].length→j<(eAt [ackRaw l] i).length→WkC (cAt (eAt [ackRaw l] i) j) (cAt (eAt ([ackF l].map encFrame) i) j):=by
  intro i j hi hj
  obtain rfl:i=0:=by simp at hi;omega
  have hj:j<7:=hj
  match j,hj with
  | 0,_|1,_|2,_|3,_|4,_|5,_=>exact .inl rfl
  | 6,_=>exact .inr ⟨rfl,rfl⟩
  | n+7,h=>omega
theorem ackRaw_len (l:List DRange):∀ i,i<[ackRaw l].length→(eAt ([ackF l].map encFrame) i).length=(eAt [ackRaw l] i).length:=by
  intro i hi
  obtain rfl:i=0:=by simp at hi;omega
  rfl
theorem ln_low {c:DConn} {n:Nat} (h:AllTo (lnOk c) n):∀ j,j<n→0≤(c.Lanes.getD j default).Id:=by
  intro j
  induction j with
  | zero=>intro hj;have:=(h 0 hj).1;rw [lnPrev_0] at this;omega
  | succ j ih=>intro hj;have h1:=(h (j+1) hj).1;rw [lnPrev_s] at h1;have:=ih (by omega);omega
def cnQu (c:DConn) (s:DSpace):DConn:={ c with Space:=s,Owes:=false }
theorem cnQu_wf {c:DConn} {s:DSpace} (hw:wfConn c) (h:wfSpace s):wfConn (cnQu c s):=by
  obtain ⟨w0,w1,w2,w3,w4,w5,w6,w7,w8,w9,w10,w11,w12,w13⟩:=hw
  exact ⟨h,w1,w2,w3,w4,w5,w6,w7,w8,w9,w10,w11,w12,w13⟩
theorem cnSn_wf {c:DConn} {pl:List DLane} {pu:Int} {tq:List DFrame} {p:DPace} {s:DSpace} (hw:wfConn c) (h1:pl.length≤4) (h2:∀ y,y ∈ pl→wfLane y) (h3:0≤pu∧pu≤4611686018427387903) (h4:tq.length≤12) (h5:∀ y,y ∈ tq→wfFrame y) (h6:wfPace p) (h7:wfSpace s) :
    wfConn (cnSn (cnPk c pl pu) tq p s):=by
  obtain ⟨w0,w1,w2,w3,w4,w5,w6,w7,w8,w9,w10,w11,w12,w13⟩:=hw
  exact ⟨h7,h6,w2,⟨w3.1,by unfold cnSn cnPk I64;dsimp only;omega⟩,w4,w5,w6,by unfold cnSn cnPk;dsimp only;omega,h2,by unfold cnSn;dsimp only;omega,h5,w11,w12,w13⟩
theorem spFlt_ok {s:DSpace} (h:spFlt s=0):spOk s:=by
  unfold spFlt at h
  split at h
  · assumption
  · cases h
set_option maxHeartbeats 16000000 in
theorem connFlush_fn (c:DConn) (now:Int) (hu:W.wfConn c):Fn Tryz.prog 101 [.agg (encConn c),.lit (.int .i64 now)] (encFl (flR c now)):=by
  have hw:=W.wf_leConn c hu
  have h1:=connCheck_fn c hw
  have hF:=cfresh_fnm c hw
  unfold flR
  rcases cnFlt_cases c with ⟨h0,hok⟩ | ⟨h0,hok⟩
  · rw [h0] at h1 ⊢
    rw [if_pos rfl]
    by_cases hnow:0≤now∧now≤1099511627776
    · rw [if_pos hnow]
      obtain ⟨b0,space,pace,flow,credit,ids,grant,opened,lanes,b1,queue,last,resets,b2,code⟩:=c
      cases b2
      · rw [if_neg Bool.false_ne_true]
        have hcn:=hok.1.1.1
        have hTell:=tell_fn space hw.1
        have hws:=hw.1
        have hwp:=hw.2.1
        have hq1:=hw.2.2.2.2.2.2.2.2.2.1
        have hq2:=hw.2.2.2.2.2.2.2.2.2.2.1
        have hqok:okFs queue:=fun f hf=>⟨hq2 f hf,(allTo_memA (Q:=fun x=>frFlt x=0)).1 hok.1.2 f hf⟩
        have hlu:∀ y,y ∈ lanes→W.wfLane y∧0≤y.Id∧y.Id≤4611686018427387903:=fun y hy=>⟨hu.2.2.2.2.2.2.2.2.1 y hy,by
          obtain ⟨i,hi,rfl⟩:=List.getElem_of_mem hy
          have hln:=hok.1.1.2
          have hop:=hcn.2
          unfold cnNum at hop
          dsimp only at hln hop hi
          have h1:=(ln_low hln i hi)
          have h2:=(hln i hi).2.1
          dsimp only at h1 h2
          rw [List.getD_eq_getElem?_getD,List.getElem?_eq_getElem hi] at h1 h2
          dsimp only [Option.getD_some] at h1 h2
          omega⟩
        have hsp:spFlt space=0:=hcn.1.1
        have hfl:flwOk credit:=by have h:=hcn.1.2.2.2;dsimp only at h;unfold flwFlt at h;split at h;(assumption);(cases h)
        have hll:lanes.length≤4:=by have:=hcn.2;unfold cnNum at this;dsimp only at this;omega
        have hql:queue.length≤12:=by have:=hcn.2;unfold cnNum at this;dsimp only at this;omega
        obtain ⟨A,hA⟩:∃ A,A=ackL ⟨b0,space,pace,flow,credit,ids,grant,opened,lanes,b1,queue,last,resets,false,code⟩:=⟨_,rfl⟩
        have hspo:=(spFlt_ok hsp).1.1
        unfold spHead at hspo
        have hAok:okFs A∧A.length≤1:=by
          subst hA
          unfold ackL
          split
          · rename_i h
            have:=ack_ok (l:=space.Heard) hws.2.2.2.2.2.1 hspo.2.2.2.2.2.1 h.2 hspo.2.2.2.2.2.2.1
            exact ⟨fun f hf=>by rw [List.mem_singleton] at hf;exact hf ▸ this,by simp⟩
          · exact ⟨(fun f hf=>by cases hf),by simp⟩
        have hTe:spTell space=(space.Heard.reverse,0):=by unfold spTell;rw [hsp,if_neg (by decide)]
        rw [hTe] at hTell
        dsimp only at hTell
        unfold flTry flPk
        rw [← hA]
        clear hok hcn hu
        unfold connC at hF
        dsimp only at *
        refine fn_of_run (by kernel_rfl) Tryz.func101 rfl (by kernel_rfl) ?_
        (repeat' first|(refine s_call (h1) (h:=?_))|(refine p_call (h1) (h:=?_))|(refine s_callM [] (hF) (h:=?_))|(refine goU_ 9 ?_;((repeat' first|exact True.intro|refine Two.mk ?_ ?_);all_goals intros))|fail "")
        refine r_less (st':=⟨[(1,.lit (.int .i64 now)),(4,.ptr 1 0 0 0),(9,.ptr 2 0 0 0)],[(1,some (.box 51 [.lit (.bool false),.lit (.int .i64 0),.lit (.slice none 0 0),.lit (.int .i64 0),.lit (.slice none 0 0),.lit (.slice none 0 0),.lit (.int .i64 0),.lit (.int .i64 0),.lit (.int .i64 0),.lit (.int .i64 0),.lit (.int .i64 0),.lit (.int .i64 0),.lit (.int .i64 0),.lit (.int .i64 0),.lit (.int .i64 0),.lit (.int .i64 0),.lit (.int .i64 0),.lit (.slice none 0 0),.lit (.bool false),.lit (.slice none 0 0),.lit (.int .i64 0),.lit (.int .i64 0),.lit (.bool false),.lit (.int .i64 0)])),(2,some (.box 116 [.lit (.bool b0),.lit (.int .i64 space.Next),.ro (space.Sent.map encParcel),.lit (.int .i64 space.Top),.ro (space.Heard.map encRange),.ro (space.Skip.map encI),.lit (.int .i64 pace.Window),.lit (.int .i64 pace.Thresh),.lit (.int .i64 pace.Flying),.lit (.int .i64 pace.Since),.lit (.int .i64 flow.Max),.lit (.int .i64 flow.Used),.lit (.int .i64 credit.Max),.lit (.int .i64 credit.Used),.lit (.int .i64 ids),.lit (.int .i64 grant),.lit (.int .i64 opened),.ro (lanes.map encLane),.lit (.bool b1),.ro (queue.map encFrame),.lit (.int .i64 last),.lit (.int .i64 resets),.lit (.bool false),.lit (.int .i64 code)]))],3,Tryz.f101.ntmps⟩) (by (exact lessA_)) ?_
        (repeat' first|(refine goU_ 10 ?_;((repeat' first|exact True.intro|refine Two.mk ?_ ?_);all_goals intros))|fail "")
        refine r_cut (fun _:Unit=>⟨[(1,.lit (.int .i64 now)),(4,.ptr 1 0 0 0),(9,.ptr 2 0 0 0),(10,.ro (A.map encFrame))],[(1,some (.box 51 [.lit (.bool false),.lit (.int .i64 0),.lit (.slice none 0 0),.lit (.int .i64 0),.lit (.slice none 0 0),.lit (.slice none 0 0),.lit (.int .i64 0),.lit (.int .i64 0),.lit (.int .i64 0),.lit (.int .i64 0),.lit (.int .i64 0),.lit (.int .i64 0),.lit (.int .i64 0),.lit (.int .i64 0),.lit (.int .i64 0),.lit (.int .i64 0),.lit (.int .i64 0),.lit (.slice none 0 0),.lit (.bool false),.lit (.slice none 0 0),.lit (.int .i64 0),.lit (.int .i64 0),.lit (.bool false),.lit (.int .i64 0)])),(2,some (.box 116 [.lit (.bool b0),.lit (.int .i64 space.Next),.ro (space.Sent.map encParcel),.lit (.int .i64 space.Top),.ro (space.Heard.map encRange),.ro (space.Skip.map encI),.lit (.int .i64 pace.Window),.lit (.int .i64 pace.Thresh),.lit (.int .i64 pace.Flying),.lit (.int .i64 pace.Since),.lit (.int .i64 flow.Max),.lit (.int .i64 flow.Used),.lit (.int .i64 credit.Max),.lit (.int .i64 credit.Used),.lit (.int .i64 ids),.lit (.int .i64 grant),.lit (.int .i64 opened),.ro (lanes.map encLane),.lit (.bool b1),.ro (queue.map encFrame),.lit (.int .i64 last),.lit (.int .i64 resets),.lit (.bool false),.lit (.int .i64 code)]))],3,Tryz.f101.ntmps⟩) (fun _=>True) ?_ ?_
        · have hrl:space.Heard.reverse.length=space.Heard.length:=List.length_reverse
          unfold ackL at hA
          dsimp only at hA
          by_cases ha:b1=true∧0<space.Heard.length
          · rw [if_pos ha] at hA
            subst hA
            obtain ⟨hb,hh⟩:=ha
            subst hb
            (repeat' first|(refine s_call (hTell) (h:=?_))|(refine p_call (hTell) (h:=?_))|(refine go_ ?_;((repeat' first|exact True.intro|refine Two.mk ?_ ?_);all_goals intros))|fail "")
            all_goals first
              | (refine ⟨(),trivial,?_⟩;refine (less_roS 10 (l:=[ackRaw space.Heard]) (l':=[ackF space.Heard].map encFrame) rfl rfl (ackRaw_len _) (ackRaw_wk _)).trans ?_;(exact lessA_))
              | (exfalso;omega)
              | skip
          · rw [if_neg ha] at hA
            subst hA
            cases b1
            · (repeat' first|(refine s_call (hTell) (h:=?_))|(refine p_call (hTell) (h:=?_))|(refine go_ ?_;((repeat' first|exact True.intro|refine Two.mk ?_ ?_);all_goals intros))|fail "")
              all_goals first
                | (refine ⟨(),trivial,?_⟩;refine (less_nilS 10 rfl).trans ?_;(exact lessA_))
                | (exfalso;omega)
                | skip
            · have ha:¬ 0<space.Heard.length:=fun h=>ha ⟨rfl,h⟩
              (repeat' first|(refine s_call (hTell) (h:=?_))|(refine p_call (hTell) (h:=?_))|(refine go_ ?_;((repeat' first|exact True.intro|refine Two.mk ?_ ?_);all_goals intros))|fail "")
              all_goals first
                | (refine ⟨(),trivial,?_⟩;refine (less_nilS 10 rfl).trans ?_;(exact lessA_))
                | (exfalso;omega)
                | skip
        rintro ⟨⟩ -
        clear hTell hTe hA
        have hA2:=cframes_fnm A (fun f hf=>(hAok.1 f hf).1) (by omega)
        obtain ⟨tk1,tk2,tk3,tk4,tk5⟩:=takeQ_ok queue A hqok hAok.1 (by omega)
        (repeat' first|(refine s_callM [] (hF) (h:=?_))|(refine goU_ 14 ?_;((repeat' first|exact True.intro|refine Two.mk ?_ ?_);all_goals intros))|fail "")
        refine r_less (st':=⟨[(1,.lit (.int .i64 now)),(4,.ptr 1 0 0 0),(9,.ptr 2 0 0 0),(10,.ro (A.map encFrame)),(13,.ptr 3 0 0 0)],[(1,some (.box 51 [.lit (.bool false),.lit (.int .i64 0),.lit (.slice none 0 0),.lit (.int .i64 0),.lit (.slice none 0 0),.lit (.slice none 0 0),.lit (.int .i64 0),.lit (.int .i64 0),.lit (.int .i64 0),.lit (.int .i64 0),.lit (.int .i64 0),.lit (.int .i64 0),.lit (.int .i64 0),.lit (.int .i64 0),.lit (.int .i64 0),.lit (.int .i64 0),.lit (.int .i64 0),.lit (.slice none 0 0),.lit (.bool false),.lit (.slice none 0 0),.lit (.int .i64 0),.lit (.int .i64 0),.lit (.bool false),.lit (.int .i64 0)])),(2,some (.box 116 [.lit (.bool b0),.lit (.int .i64 space.Next),.ro (space.Sent.map encParcel),.lit (.int .i64 space.Top),.ro (space.Heard.map encRange),.ro (space.Skip.map encI),.lit (.int .i64 pace.Window),.lit (.int .i64 pace.Thresh),.lit (.int .i64 pace.Flying),.lit (.int .i64 pace.Since),.lit (.int .i64 flow.Max),.lit (.int .i64 flow.Used),.lit (.int .i64 credit.Max),.lit (.int .i64 credit.Used),.lit (.int .i64 ids),.lit (.int .i64 grant),.lit (.int .i64 opened),.ro (lanes.map encLane),.lit (.bool b1),.ro (queue.map encFrame),.lit (.int .i64 last),.lit (.int .i64 resets),.lit (.bool false),.lit (.int .i64 code)])),(3,some (.box 116 [.lit (.bool b0),.lit (.int .i64 space.Next),.ro (space.Sent.map encParcel),.lit (.int .i64 space.Top),.ro (space.Heard.map encRange),.ro (space.Skip.map encI),.lit (.int .i64 pace.Window),.lit (.int .i64 pace.Thresh),.lit (.int .i64 pace.Flying),.lit (.int .i64 pace.Since),.lit (.int .i64 flow.Max),.lit (.int .i64 flow.Used),.lit (.int .i64 credit.Max),.lit (.int .i64 credit.Used),.lit (.int .i64 ids),.lit (.int .i64 grant),.lit (.int .i64 opened),.own 4,.lit (.bool b1),.ro (queue.map encFrame),.lit (.int .i64 last),.lit (.int .i64 resets),.lit (.bool false),.lit (.int .i64 code)])),(4,some (.row 134 16 (lanes.map encLane)))],5,Tryz.f101.ntmps⟩) (by (exact lessA_)) ?_
        (repeat' first|(refine s_callM [] (hA2) (h:=?_))|(refine goU_ 15 ?_;((repeat' first|exact True.intro|refine Two.mk ?_ ?_);all_goals intros))|fail "")
        generalize hT:takeQ queue A=T at *
        obtain ⟨to,tq⟩:=T
        dsimp only at *
        refine r_cut (fun _:Unit=>⟨[(1,.lit (.int .i64 now)),(4,.ptr 1 0 0 0),(9,.ptr 2 0 0 0),(10,.ro (A.map encFrame)),(13,.ptr 3 0 0 0),(14,.own 5)],[(1,some (.box 51 [.lit (.bool false),.lit (.int .i64 0),.lit (.slice none 0 0),.lit (.int .i64 0),.lit (.slice none 0 0),.lit (.slice none 0 0),.lit (.int .i64 0),.lit (.int .i64 0),.lit (.int .i64 0),.lit (.int .i64 0),.lit (.int .i64 0),.lit (.int .i64 0),.lit (.int .i64 0),.lit (.int .i64 0),.lit (.int .i64 0),.lit (.int .i64 0),.lit (.int .i64 0),.lit (.slice none 0 0),.lit (.bool false),.lit (.slice none 0 0),.lit (.int .i64 0),.lit (.int .i64 0),.lit (.bool false),.lit (.int .i64 0)])),(2,some (.box 116 [.lit (.bool b0),.lit (.int .i64 space.Next),.ro (space.Sent.map encParcel),.lit (.int .i64 space.Top),.ro (space.Heard.map encRange),.ro (space.Skip.map encI),.lit (.int .i64 pace.Window),.lit (.int .i64 pace.Thresh),.lit (.int .i64 pace.Flying),.lit (.int .i64 pace.Since),.lit (.int .i64 flow.Max),.lit (.int .i64 flow.Used),.lit (.int .i64 credit.Max),.lit (.int .i64 credit.Used),.lit (.int .i64 ids),.lit (.int .i64 grant),.lit (.int .i64 opened),.ro (lanes.map encLane),.lit (.bool b1),.ro (queue.map encFrame),.lit (.int .i64 last),.lit (.int .i64 resets),.lit (.bool false),.lit (.int .i64 code)])),(3,some (.box 116 [.lit (.bool b0),.lit (.int .i64 space.Next),.ro (space.Sent.map encParcel),.lit (.int .i64 space.Top),.ro (space.Heard.map encRange),.ro (space.Skip.map encI),.lit (.int .i64 pace.Window),.lit (.int .i64 pace.Thresh),.lit (.int .i64 pace.Flying),.lit (.int .i64 pace.Since),.lit (.int .i64 flow.Max),.lit (.int .i64 flow.Used),.lit (.int .i64 credit.Max),.lit (.int .i64 credit.Used),.lit (.int .i64 ids),.lit (.int .i64 grant),.lit (.int .i64 opened),.own 4,.lit (.bool b1),.ro (tq.map encFrame),.lit (.int .i64 last),.lit (.int .i64 resets),.lit (.bool false),.lit (.int .i64 code)])),(4,some (.row 134 16 (lanes.map encLane))),(5,some (.row 111 7 (to.map encFrame)))],6,Tryz.f101.ntmps⟩) (fun _=>True) ?_ ?_
        · refine r_block ?_
          refine r_for (fun x:List DFrame×List DFrame=>⟨[(1,.lit (.int .i64 now)),(4,.ptr 1 0 0 0),(9,.ptr 2 0 0 0),(10,.ro (A.map encFrame)),(13,.ptr 3 0 0 0),(14,.own 5)],[(1,some (.box 51 [.lit (.bool false),.lit (.int .i64 0),.lit (.slice none 0 0),.lit (.int .i64 0),.lit (.slice none 0 0),.lit (.slice none 0 0),.lit (.int .i64 0),.lit (.int .i64 0),.lit (.int .i64 0),.lit (.int .i64 0),.lit (.int .i64 0),.lit (.int .i64 0),.lit (.int .i64 0),.lit (.int .i64 0),.lit (.int .i64 0),.lit (.int .i64 0),.lit (.int .i64 0),.lit (.slice none 0 0),.lit (.bool false),.lit (.slice none 0 0),.lit (.int .i64 0),.lit (.int .i64 0),.lit (.bool false),.lit (.int .i64 0)])),(2,some (.box 116 [.lit (.bool b0),.lit (.int .i64 space.Next),.ro (space.Sent.map encParcel),.lit (.int .i64 space.Top),.ro (space.Heard.map encRange),.ro (space.Skip.map encI),.lit (.int .i64 pace.Window),.lit (.int .i64 pace.Thresh),.lit (.int .i64 pace.Flying),.lit (.int .i64 pace.Since),.lit (.int .i64 flow.Max),.lit (.int .i64 flow.Used),.lit (.int .i64 credit.Max),.lit (.int .i64 credit.Used),.lit (.int .i64 ids),.lit (.int .i64 grant),.lit (.int .i64 opened),.ro (lanes.map encLane),.lit (.bool b1),.ro (queue.map encFrame),.lit (.int .i64 last),.lit (.int .i64 resets),.lit (.bool false),.lit (.int .i64 code)])),(3,some (.box 116 [.lit (.bool b0),.lit (.int .i64 space.Next),.ro (space.Sent.map encParcel),.lit (.int .i64 space.Top),.ro (space.Heard.map encRange),.ro (space.Skip.map encI),.lit (.int .i64 pace.Window),.lit (.int .i64 pace.Thresh),.lit (.int .i64 pace.Flying),.lit (.int .i64 pace.Since),.lit (.int .i64 flow.Max),.lit (.int .i64 flow.Used),.lit (.int .i64 credit.Max),.lit (.int .i64 credit.Used),.lit (.int .i64 ids),.lit (.int .i64 grant),.lit (.int .i64 opened),.own 4,.lit (.bool b1),.ro (x.2.map encFrame),.lit (.int .i64 last),.lit (.int .i64 resets),.lit (.bool false),.lit (.int .i64 code)])),(4,some (.row 134 16 (lanes.map encLane))),(5,some (.row 111 7 (x.1.map encFrame)))],6,Tryz.f101.ntmps⟩)
            (fun x=>takeQ x.2 x.1=(to,tq)∧okFs x.1∧okFs x.2∧x.1.length≤11∧x.2.length≤12) (fun x=>x.2.length) (A,queue) ⟨hT,hAok.1,hqok,by dsimp only;omega,hql⟩ (by (exact lessA_)) ?_
          clear hT
          rintro ⟨o,q⟩ ⟨hT,ho,hq,ho11,hq12⟩
          dsimp only at *
          have hs1:=size_fn o (fun f hf=>(ho f hf).1) (fun f hf=>(ho f hf).2) (by omega)
          have hz:=szF_le (fun f hf=>(ho f hf).2)
          have hgo:q≠[]→o.length<11∧szF o+((frB (q.getD 0 default)).length:Int)≤352 → ∃ f q',q=f :: q' ∧ takeQ q' (o++[f])=(to,tq):=fun h1 h2=>by
            cases q with
            | nil=>exact absurd rfl h1
            | cons f q'=>
              have h2:o.length<11∧szF o+((frB f).length:Int)≤352:=h2
              unfold takeQ at hT
              rw [if_pos h2] at hT
              exact ⟨f,q',rfl,hT⟩
          have hno:(q=[] ∨ ¬ (o.length<11∧szF o+((frB (q.getD 0 default)).length:Int)≤352))→o=to∧q=tq:=fun h=>by
            cases q with
            | nil=>unfold takeQ at hT;cases hT;exact ⟨rfl,rfl⟩
            | cons f q'=>
              have h:¬ (o.length<11∧szF o+((frB f).length:Int)≤352):=h.resolve_left (by simp)
              unfold takeQ at hT
              rw [if_neg h] at hT
              cases hT;exact ⟨rfl,rfl⟩
          cases q with
          | nil=>
            obtain ⟨e1,e2⟩:=hno (.inl rfl)
            subst e1 e2
            clear hgo hno hT
            have hz0:(([]:List DFrame).length:Int)=0:=rfl
            (repeat' first|(refine s_snap (hs1) (h:=?_))|(refine p_snapO (hs1) (h:=?_))|(refine go_ ?_;((repeat' first|exact True.intro|refine Two.mk ?_ ?_);all_goals intros))|fail "")
            all_goals first
              | (refine ⟨(),?_,?_⟩;rotate_left 1;(exact lessA_);(exact Z68_))
              | (exfalso;omega)
              | skip
          | cons f q'=>
            have hs2:=size_fn [f] (fun g hg=>by rw [List.mem_singleton] at hg;exact hg ▸ (hq f List.mem_cons_self).1) (fun g hg=>by rw [List.mem_singleton] at hg;exact hg ▸ (hq f List.mem_cons_self).2) (by simp)
            rw [szF_one] at hs2
            have hfb:=frB_len (hq f List.mem_cons_self).2
            have hgo:=hgo (by simp)
            have hno:=fun h=>hno (.inr h)
            rw [show (f :: q').getD 0 default=f from rfl] at hgo hno
            have hf:=hq f List.mem_cons_self
            have hq':okFs q':=fun g hg=>hq g (List.mem_cons_of_mem _ hg)
            rw [List.length_cons] at hq12
            have hlen:(f :: q').length=q'.length+1:=rfl
            generalize (frB f).length=fb at *
            generalize szF o=z at *
            by_cases hc:o.length<11∧z+(fb:Int)≤352
            · obtain ⟨f2,q2,e,hT2⟩:=hgo hc
              cases e
              clear hgo hno hT
              (repeat' first|(refine s_snap (hs1) (h:=?_))|(refine p_snapO (hs1) (h:=?_))|(refine s_call (hs2) (h:=?_))|(refine p_call (hs2) (h:=?_))|(refine s_slice (r:=[f]) (0) (1) ?_ ?_ ?_ ?_ ?_ (h:=?_);(exact Z36_);(exact Z36_);(focus omega);(focus omega);(exact Z55_))|(refine p_slice (r:=[f]) (0) (1) ?_ ?_ ?_ ?_ ?_ (h:=?_);(exact Z36_);(exact Z36_);(focus omega);(focus omega);(exact Z55_))|(refine s_slice (r:=q') (1) (q'.length+1) ?_ ?_ ?_ ?_ ?_ (h:=?_);(exact Z36_);(exact Z36_);(focus omega);(focus omega);(exact Z55_))|(refine p_slice (r:=q') (1) (q'.length+1) ?_ ?_ ?_ ?_ ?_ (h:=?_);(exact Z36_);(exact Z36_);(focus omega);(focus omega);(exact Z55_))|(refine s_app (r:=(o++[f]).map encFrame) ?_ ?_ ?_ ?_ (h:=?_);(exact Z57_);(exact Z47_);(exact Z12_);(exact Z22_))|(refine s_app0R (r:=(o++[f]).map encFrame) ?_ ?_ ?_ ?_ (h:=?_);(exact Z57_);(exact Z47_);(exact Z12_);(exact Z22_))|(refine p_app (r:=(o++[f]).map encFrame) ?_ ?_ ?_ ?_ (h:=?_);(exact Z57_);(exact Z47_);(exact Z12_);(exact Z22_))|(refine go_ ?_;((repeat' first|exact True.intro|refine Two.mk ?_ ?_);all_goals intros))|fail "")
              all_goals first
                | (refine ⟨(o++[f],q'),?_,?_,?_⟩;rotate_left 2;(exact lessA_);(focus (dsimp only;rw [List.length_cons];omega));(exact Z14_))
                | (exfalso;omega)
                | (exfalso;simp only [List.length_map] at *;omega)
                | skip
            · obtain ⟨e1,e2⟩:=hno hc
              subst e1 e2
              clear hgo hno hT
              (repeat' first|(refine s_snap (hs1) (h:=?_))|(refine p_snapO (hs1) (h:=?_))|(refine s_call (hs2) (h:=?_))|(refine p_call (hs2) (h:=?_))|(refine s_slice (r:=[f]) (0) (1) ?_ ?_ ?_ ?_ ?_ (h:=?_);(exact Z36_);(exact Z36_);(focus omega);(focus omega);(exact Z55_))|(refine p_slice (r:=[f]) (0) (1) ?_ ?_ ?_ ?_ ?_ (h:=?_);(exact Z36_);(exact Z36_);(focus omega);(focus omega);(exact Z55_))|(refine go_ ?_;((repeat' first|exact True.intro|refine Two.mk ?_ ?_);all_goals intros))|fail "")
              all_goals first
                | (refine ⟨(),?_,?_⟩;rotate_left 1;(exact lessA_);(exact Z68_))
                | (exfalso;omega)
                | (exfalso;simp only [List.length_map] at *;omega)
                | skip
        rintro ⟨⟩ -
        clear hA2
        have hPk:=endPack_fnm ⟨b0,space,pace,flow,credit,ids,grant,opened,lanes,b1,queue,last,resets,false,code⟩ tq to hlu (by first|omega|(dsimp only;omega)) hfl tk1 (by omega) _ rfl
        unfold connC cnPk at hPk
        unfold flwOk at hfl
        dsimp only at hPk
        have hpo:=packN_ok (cr:=credit.Max) hlu lanes.length 0 (lanes,credit.Used,to) (by omega) rfl (fun y hy=>W.wf_leLane y (hlu y hy).1) (by first|omega|(dsimp only;omega)) tk1 (by first|omega|(dsimp only;omega))
        generalize packN credit.Max lanes lanes.length 0 (lanes,credit.Used,to)=PP at *
        obtain ⟨pl,pu,po⟩:=PP
        obtain ⟨g1,g2,g3,g4,g5⟩:=hpo
        dsimp only at *
        have hS:=size_fn po (fun f hf=>(g4 f hf).1) (fun f hf=>(g4 f hf).2) (by omega)
        have hP:=pSend_fn pace (szF po)
        have hSd:=send_fn space now (szF po) po hws (by omega) (fun f hf=>(g4 f hf).1)
        have hFr:=cframes_fn po (fun f hf=>(g4 f hf).1) (by omega)
        have hFa:=cframes_fn A (fun f hf=>(hAok.1 f hf).1) (by omega)
        have hQ:=quiet_fn space hws
        have hw2:=paceSend_wf pace (szF po) hwp
        have hw3:=spSend_wf space now (szF po) po hws (by omega) (fun f hf=>(g4 f hf).1)
        generalize paceSendV pace (szF po)=PV at *
        generalize spSend space now (szF po) po=SV at *
        obtain ⟨p2,may,pe⟩:=PV
        obtain ⟨s2,num,se⟩:=SV
        dsimp only at *
        have hF2:=cfresh_fnm _ (cnSn_wf (pl:=pl) (pu:=pu) (tq:=tq) (p:=p2) (s:=s2) hw (by omega) g2 (by first|omega|(dsimp only;omega)) (by omega) (fun f hf=>(tk2 f hf).1) hw2 hw3)
        have hF3:=fun s3 (h3:wfSpace s3)=>cfresh_fnm _ (cnQu_wf (s:=s3) hw h3)
        have hw4:=spQuiet_wf space hws
        unfold cnSn cnPk connC at hF2
        unfold cnQu connC at hF3
        unfold encPB at hP
        clear hF hw hws hwp hlu hqok hAok g2 g4 tk1 tk2 hq1 hq2 hw2 hw3
        dsimp only at *
        (repeat' first|(refine s_callM [3,4,5] (hPk) (h:=?_))|(refine p_callM [3,4,5] (hPk) (h:=?_))|(refine goU_ 19 ?_;((repeat' first|exact True.intro|refine Two.mk ?_ ?_);all_goals intros))|fail "")
        refine r_less (st':=⟨[(1,.lit (.int .i64 now)),(4,.ptr 1 0 0 0),(9,.ptr 2 0 0 0),(10,.ro (A.map encFrame)),(13,.ptr 3 0 0 0),(14,.ro (po.map encFrame))],[(1,some (.box 51 [.lit (.bool false),.lit (.int .i64 0),.lit (.slice none 0 0),.lit (.int .i64 0),.lit (.slice none 0 0),.lit (.slice none 0 0),.lit (.int .i64 0),.lit (.int .i64 0),.lit (.int .i64 0),.lit (.int .i64 0),.lit (.int .i64 0),.lit (.int .i64 0),.lit (.int .i64 0),.lit (.int .i64 0),.lit (.int .i64 0),.lit (.int .i64 0),.lit (.int .i64 0),.lit (.slice none 0 0),.lit (.bool false),.lit (.slice none 0 0),.lit (.int .i64 0),.lit (.int .i64 0),.lit (.bool false),.lit (.int .i64 0)])),(2,some (.box 116 [.lit (.bool b0),.lit (.int .i64 space.Next),.ro (space.Sent.map encParcel),.lit (.int .i64 space.Top),.ro (space.Heard.map encRange),.ro (space.Skip.map encI),.lit (.int .i64 pace.Window),.lit (.int .i64 pace.Thresh),.lit (.int .i64 pace.Flying),.lit (.int .i64 pace.Since),.lit (.int .i64 flow.Max),.lit (.int .i64 flow.Used),.lit (.int .i64 credit.Max),.lit (.int .i64 credit.Used),.lit (.int .i64 ids),.lit (.int .i64 grant),.lit (.int .i64 opened),.ro (lanes.map encLane),.lit (.bool b1),.ro (queue.map encFrame),.lit (.int .i64 last),.lit (.int .i64 resets),.lit (.bool false),.lit (.int .i64 code)])),(3,some (.box 116 [.lit (.bool b0),.lit (.int .i64 space.Next),.ro (space.Sent.map encParcel),.lit (.int .i64 space.Top),.ro (space.Heard.map encRange),.ro (space.Skip.map encI),.lit (.int .i64 pace.Window),.lit (.int .i64 pace.Thresh),.lit (.int .i64 pace.Flying),.lit (.int .i64 pace.Since),.lit (.int .i64 flow.Max),.lit (.int .i64 flow.Used),.lit (.int .i64 credit.Max),.lit (.int .i64 pu),.lit (.int .i64 ids),.lit (.int .i64 grant),.lit (.int .i64 opened),.ro (pl.map encLane),.lit (.bool b1),.ro (tq.map encFrame),.lit (.int .i64 last),.lit (.int .i64 resets),.lit (.bool false),.lit (.int .i64 code)]))],4,Tryz.f101.ntmps⟩) (by (exact lessA_)) ?_
        clear hPk
        refine r_cut (fun _:Unit=>⟨[(4,.ptr 1 0 0 0),(9,.ptr 2 0 0 0),(10,.ro (A.map encFrame))],[(1,some (.box 51 [.lit (.bool false),.lit (.int .i64 0),.lit (.slice none 0 0),.lit (.int .i64 0),.lit (.slice none 0 0),.lit (.slice none 0 0),.lit (.int .i64 0),.lit (.int .i64 0),.lit (.int .i64 0),.lit (.int .i64 0),.lit (.int .i64 0),.lit (.int .i64 0),.lit (.int .i64 0),.lit (.int .i64 0),.lit (.int .i64 0),.lit (.int .i64 0),.lit (.int .i64 0),.lit (.slice none 0 0),.lit (.bool false),.lit (.slice none 0 0),.lit (.int .i64 0),.lit (.int .i64 0),.lit (.bool false),.lit (.int .i64 0)])),(2,some (.box 116 [.lit (.bool b0),.lit (.int .i64 space.Next),.ro (space.Sent.map encParcel),.lit (.int .i64 space.Top),.ro (space.Heard.map encRange),.ro (space.Skip.map encI),.lit (.int .i64 pace.Window),.lit (.int .i64 pace.Thresh),.lit (.int .i64 pace.Flying),.lit (.int .i64 pace.Since),.lit (.int .i64 flow.Max),.lit (.int .i64 flow.Used),.lit (.int .i64 credit.Max),.lit (.int .i64 credit.Used),.lit (.int .i64 ids),.lit (.int .i64 grant),.lit (.int .i64 opened),.ro (lanes.map encLane),.lit (.bool b1),.ro (queue.map encFrame),.lit (.int .i64 last),.lit (.int .i64 resets),.lit (.bool false),.lit (.int .i64 code)]))],3,Tryz.f101.ntmps⟩) (fun _=>¬ (A.length<po.length∧may=true∧se=0)) ?_ ?_
        · by_cases hlt:A.length<po.length
          · by_cases hse:se=0
            · subst hse
              cases may
              · (repeat' first|(refine s_call (hS) (h:=?_))|(refine p_call (hS) (h:=?_))|(refine s_call (hP) (h:=?_))|(refine p_call (hP) (h:=?_))|(refine s_call (hSd) (h:=?_))|(refine p_call (hSd) (h:=?_))|(refine go_ ?_;((repeat' first|exact True.intro|refine Two.mk ?_ ?_);all_goals intros))|fail "")
                all_goals first
                  | (refine ⟨(),?_,?_⟩;rotate_left 1;(exact lessA_);(focus (exact fun h=>by cases h.2.1)))
                  | (exfalso;simp only [List.length_map] at *;omega)
                  | skip
              · rw [if_pos ⟨hlt,rfl,rfl⟩]
                unfold cnSn cnPk encFl
                dsimp only
                (repeat' first|(refine s_call (hS) (h:=?_))|(refine p_call (hS) (h:=?_))|(refine s_call (hP) (h:=?_))|(refine p_call (hP) (h:=?_))|(refine s_call (hSd) (h:=?_))|(refine p_call (hSd) (h:=?_))|(refine s_call (hFr) (h:=?_))|(refine p_call (hFr) (h:=?_))|(refine s_callM [] (hF2) (h:=?_))|(refine go_ ?_;((repeat' first|exact True.intro|refine Two.mk ?_ ?_);all_goals intros))|fail "")
                all_goals (try dsimp only at *)
                all_goals first
                  | (exact endwA_)
                  | (exfalso;simp only [List.length_map] at *;omega)
                  | skip
            · cases may
              all_goals
                (repeat' first|(refine s_call (hS) (h:=?_))|(refine p_call (hS) (h:=?_))|(refine s_call (hP) (h:=?_))|(refine p_call (hP) (h:=?_))|(refine s_call (hSd) (h:=?_))|(refine p_call (hSd) (h:=?_))|(refine go_ ?_;((repeat' first|exact True.intro|refine Two.mk ?_ ?_);all_goals intros))|fail "")
                all_goals first
                  | (refine ⟨(),?_,?_⟩;rotate_left 1;(exact lessA_);(focus (exact fun h=>hse h.2.2)))
                  | (exfalso;simp only [List.length_map] at *;omega)
                  | skip
          · (repeat' first|(refine go_ ?_;((repeat' first|exact True.intro|refine Two.mk ?_ ?_);all_goals intros))|fail "")
            all_goals first
              | (refine ⟨(),?_,?_⟩;rotate_left 1;(exact lessA_);(focus (exact fun h=>hlt h.1)))
              | (exfalso;simp only [List.length_map] at *;omega)
              | skip
        rintro ⟨⟩ hng
        (try dsimp only at hng)
        rw [if_neg hng]
        clear hng hF2 hSd hP hS hFr
        unfold quietR encFl
        (try dsimp only)
        by_cases hA0:A.length=0
        · rw [if_pos hA0]
          (repeat' first|(refine go_ ?_;((repeat' first|exact True.intro|refine Two.mk ?_ ?_);all_goals intros))|fail "")
          all_goals (try dsimp only at *)
          all_goals first
            | (exact endwA_)
            | (exfalso;simp only [List.length_map] at *;omega)
            | skip
        · rw [if_neg hA0]
          generalize spQuiet space=QV at *
          obtain ⟨s3,n3,e3⟩:=QV
          have hF3:=hF3 s3 hw4
          dsimp only at *
          by_cases he3:e3=0
          · subst he3
            rw [if_pos rfl,if_neg Bool.false_ne_true]
            (repeat' first|(refine s_call (hQ) (h:=?_))|(refine p_call (hQ) (h:=?_))|(refine s_call (hFa) (h:=?_))|(refine p_call (hFa) (h:=?_))|(refine s_callM [] (hF3) (h:=?_))|(refine go_ ?_;((repeat' first|exact True.intro|refine Two.mk ?_ ?_);all_goals intros))|fail "")
            all_goals (try dsimp only at *)
            all_goals first
              | (exact endwA_)
              | (exfalso;simp only [List.length_map] at *;omega)
              | skip
          · rw [if_neg he3]
            (repeat' first|(refine s_call (hQ) (h:=?_))|(refine p_call (hQ) (h:=?_))|(refine go_ ?_;((repeat' first|exact True.intro|refine Two.mk ?_ ?_);all_goals intros))|fail "")
            all_goals (try dsimp only at *)
            all_goals first
              | (exact endwA_)
              | (exfalso;simp only [List.length_map] at *;omega)
              | skip
      · rw [if_pos rfl]
        have hL:=endLast_fnm _ hw rfl
        clear hu hw hok
        unfold connC at hF
        unfold encFl at *
        generalize quietR _ _=R at *
        obtain ⟨Rc,Rn,Rl,Re⟩:=R
        dsimp only at *
        refine fn_of_run (by kernel_rfl) Tryz.func101 rfl (by kernel_rfl) ?_
        (repeat' first|(refine s_call (h1) (h:=?_))|(refine p_call (h1) (h:=?_))|(refine s_callM [] (hF) (h:=?_))|(refine goU_ 7 ?_;((repeat' first|exact True.intro|refine Two.mk ?_ ?_);all_goals intros))|fail "")
        refine r_less (st':=⟨[(4,.ptr 1 0 0 0),(9,.ptr 2 0 0 0)],[(1,some (.box 51 [.lit (.bool false),.lit (.int .i64 0),.lit (.slice none 0 0),.lit (.int .i64 0),.lit (.slice none 0 0),.lit (.slice none 0 0),.lit (.int .i64 0),.lit (.int .i64 0),.lit (.int .i64 0),.lit (.int .i64 0),.lit (.int .i64 0),.lit (.int .i64 0),.lit (.int .i64 0),.lit (.int .i64 0),.lit (.int .i64 0),.lit (.int .i64 0),.lit (.int .i64 0),.lit (.slice none 0 0),.lit (.bool false),.lit (.slice none 0 0),.lit (.int .i64 0),.lit (.int .i64 0),.lit (.bool false),.lit (.int .i64 0)])),(2,some (.box 116 [.lit (.bool b0),.lit (.int .i64 space.Next),.ro (space.Sent.map encParcel),.lit (.int .i64 space.Top),.ro (space.Heard.map encRange),.ro (space.Skip.map encI),.lit (.int .i64 pace.Window),.lit (.int .i64 pace.Thresh),.lit (.int .i64 pace.Flying),.lit (.int .i64 pace.Since),.lit (.int .i64 flow.Max),.lit (.int .i64 flow.Used),.lit (.int .i64 credit.Max),.lit (.int .i64 credit.Used),.lit (.int .i64 ids),.lit (.int .i64 grant),.lit (.int .i64 opened),.ro (lanes.map encLane),.lit (.bool b1),.ro (queue.map encFrame),.lit (.int .i64 last),.lit (.int .i64 resets),.lit (.bool true),.lit (.int .i64 code)]))],3,Tryz.f101.ntmps⟩) (by (exact lessA_)) ?_
        (repeat' first|(refine s_callM [2] (hL) (h:=?_))|(refine p_callM [2] (hL) (h:=?_))|(refine go_ ?_;((repeat' first|exact True.intro|refine Two.mk ?_ ?_);all_goals intros))|fail "")
        all_goals (try dsimp only at *)
        all_goals first
          | (exact endwA_)
          | (exfalso;omega)
          | skip
    · rw [if_neg hnow]
      unfold encFl
      clear hu hw hok
      refine fn_of_run (by kernel_rfl) Tryz.func101 rfl (by kernel_rfl) ?_
      (repeat' first|(refine s_call (h1) (h:=?_))|(refine p_call (h1) (h:=?_))|(refine go_ ?_;((repeat' first|exact True.intro|refine Two.mk ?_ ?_);all_goals intros))|fail "")
      all_goals (try dsimp only at *)
      all_goals first
        | (exact endwA_)
        | (exfalso;omega)
        | skip
  · rw [h0] at h1 ⊢
    rw [if_neg (by decide)]
    unfold encFl
    clear hu hw hok
    refine fn_of_run (by kernel_rfl) Tryz.func101 rfl (by kernel_rfl) ?_
    (repeat' first|(refine s_call (h1) (h:=?_))|(refine p_call (h1) (h:=?_))|(refine go_ ?_;((repeat' first|exact True.intro|refine Two.mk ?_ ?_);all_goals intros))|fail "")
    all_goals first
      | (exact endwA_)
      | skip
end Go.Proofs.YtendheafcbickaaGreat
