
import Derived.Test.YtendheafcbickaaGreatHZip
import Derived.Test.YtendheafcbickaaGreatHGo
import Derived.Test.YtendheafcbickaaGreatHFlB
set_option linter.unusedVariables false
set_option linter.unusedSimpArgs false
set_option linter.unusedVariables false
namespace Go.Proofs.YtendheafcbickaaGreat
set_option maxRecDepth 100000
attribute [local irreducible] Run RunL QStep GStep Fn Less PL FnM
set_option maxHeartbeats 4000000 in
theorem quietly_fn (c:DConn) (l:List DFrame) (hw:wfSpace c.Space) (hl:l.length≤1000000):Fn Tryz.prog 218 [.agg (encConn c),.ro (l.map encFrame)] (encFl (quietR c l)):=by
  have h1:=quietRef_fn c.Space hw
  clear hw
  unfold quietR encFl
  generalize spQuiet c.Space=Q at *
  obtain ⟨s,n,e⟩:=Q
  obtain ⟨b0,space,pace,flow,credit,ids,grant,opened,lanes,b1,queue,last,resets,b2,code⟩:=c
  dsimp only at *
  by_cases hq:l.length=0
  · rw [if_pos hq]
    refine fn_of_run (by kernel_rfl) Tryz.func218 rfl (by kernel_rfl) ?_
    (repeat' first|(refine go_ ?_;((repeat' first|exact True.intro|refine Two.mk ?_ ?_);all_goals intros))|fail "")
    all_goals (try dsimp only at *)
    all_goals first
      | (exact endwA_)
      | (exfalso;simp only [List.length_map] at *;omega)
      | skip
  · rw [if_neg hq]
    by_cases he:e=0
    · subst he
      rw [if_pos rfl]
      cases b2
      all_goals
        refine fn_of_run (by kernel_rfl) Tryz.func218 rfl (by kernel_rfl) ?_
        (repeat' first|(refine s_call (h1) (h:=?_))|(refine p_call (h1) (h:=?_))|(refine go_ ?_;((repeat' first|exact True.intro|refine Two.mk ?_ ?_);all_goals intros))|fail "")
        all_goals (try dsimp only at *)
        all_goals first
          | (exact endwA_)
          | (exfalso;simp only [List.length_map] at *;omega)
          | skip
    · rw [if_neg he]
      refine fn_of_run (by kernel_rfl) Tryz.func218 rfl (by kernel_rfl) ?_
      (repeat' first|(refine s_call (h1) (h:=?_))|(refine p_call (h1) (h:=?_))|(refine go_ ?_;((repeat' first|exact True.intro|refine Two.mk ?_ ?_);all_goals intros))|fail "")
      all_goals (try dsimp only at *)
      all_goals first
        | (exact endwA_)
        | (exfalso;simp only [List.length_map] at *;omega)
        | skip
set_option maxHeartbeats 16000000 in
theorem connFlushed_fn (c:DConn) (now:Int) (hu:W.wfConn c):Fn Tryz.prog 108 [.agg (encConn c),.lit (.int .i64 now)] (encFl (flR c now)):=by
  have hw:=W.wf_leConn c hu
  have h1:=connFault_fn c hu
  unfold flR
  rcases cnFlt_cases c with ⟨h0,hok⟩ | ⟨h0,hok⟩
  · rw [h0] at h1 ⊢
    rw [if_pos rfl]
    by_cases hnow:0≤now∧now≤1099511627776
    · rw [if_pos hnow]
      have hcn:=hok.1.1.1
      have hqlc:c.Queue.length≤12:=by have:=hcn.2;unfold cnNum at this;omega
      obtain ⟨b0,space,pace,flow,credit,ids,grant,opened,lanes,b1,queue,last,resets,b2,code⟩:=c
      cases b2
      · rw [if_neg Bool.false_ne_true]
        have hBk:=backwards_fn space.Heard hw.1.2.2.2.2.1
        have hws:=hw.1
        have hwp:=hw.2.1
        have hq2:=hw.2.2.2.2.2.2.2.2.2.2.1
        have hqok:okFs queue:=fun f hf=>⟨hq2 f hf,(allTo_memA (Q:=fun x=>frFlt x=0)).1 hok.1.2 f hf⟩
        have hlu:∀ y,y ∈ lanes→W.wfLane y∧0≤y.Id∧y.Id≤4611686018427387903:=fun y hy=>⟨hu.2.2.2.2.2.2.2.2.1 y hy,by
          obtain ⟨i,hi,rfl⟩:=List.getElem_of_mem hy
          have hln:=hok.1.1.2
          have hop:=hcn.2
          unfold cnNum at hop
          dsimp only at hln hop hi
          have h1:=(ln_low hln i hi)
          have h2:=(hln i hi).2.1
          dsimp only at h1 h2
          rw [List.getD_eq_getElem?_getD,List.getElem?_eq_getElem hi] at h1 h2
          dsimp only [Option.getD_some] at h1 h2
          omega⟩
        have hsp:spFlt space=0:=hcn.1.1
        have hfl:flwOk credit:=by have h:=hcn.1.2.2.2;dsimp only at h;unfold flwFlt at h;split at h;(assumption);(cases h)
        have hll:lanes.length≤4:=by have:=hcn.2;unfold cnNum at this;dsimp only at this;omega
        have hql:queue.length≤12:=hqlc
        obtain ⟨A,hA⟩:∃ A,A=ackL ⟨b0,space,pace,flow,credit,ids,grant,opened,lanes,b1,queue,last,resets,false,code⟩:=⟨_,rfl⟩
        have hspo:=(spFlt_ok hsp).1.1
        unfold spHead at hspo
        have hAok:okFs A∧A.length≤1:=by
          subst hA
          unfold ackL
          split
          · rename_i h
            have:=ack_ok (l:=space.Heard) hws.2.2.2.2.2.1 hspo.2.2.2.2.2.1 h.2 hspo.2.2.2.2.2.2.1
            exact ⟨fun f hf=>by rw [List.mem_singleton] at hf;exact hf ▸ this,by simp⟩
          · exact ⟨(fun f hf=>by cases hf),by simp⟩
        have hQl:=quietly_fn ⟨b0,space,pace,flow,credit,ids,grant,opened,lanes,b1,queue,last,resets,false,code⟩ A hws (by omega)
        unfold flTry flPk
        rw [← hA]
        clear hok hcn hu hw
        dsimp only at *
        generalize hZ:encConn ⟨b0,space,pace,flow,credit,ids,grant,opened,lanes,b1,queue,last,resets,false,code⟩=Z at h1 hQl ⊢
        unfold encConn at hZ
        dsimp only at hZ
        subst hZ
        refine fn_of_run (by kernel_rfl) Tryz.func108 rfl (by kernel_rfl) ?_
        (repeat' first|(refine s_call (h1) (h:=?_))|(refine p_call (h1) (h:=?_))|(refine s_dec (upTo_fn _ _) (ht:=?_) (hff:=?_) <;> intro _ <;> try (exfalso;omega))|(refine p_dec (upTo_fn _ _) (ht:=?_) (hff:=?_) <;> intro _ <;> try (exfalso;omega))|(refine goU_ 9 ?_;((repeat' first|exact True.intro|refine Two.mk ?_ ?_);all_goals intros))|fail "")
        all_goals (try (exfalso;omega))
        refine r_cut (fun _:Unit=>⟨[(1,.lit (.int .i64 now)),(2,.ptr 0 0 0 0),(4,.ptr 1 0 0 0),(9,.ro (A.map encFrame))],[(0,some (.box 51 [.lit (.bool b0),.lit (.int .i64 space.Next),.ro (space.Sent.map encParcel),.lit (.int .i64 space.Top),.ro (space.Heard.map encRange),.ro (space.Skip.map encI),.lit (.int .i64 pace.Window),.lit (.int .i64 pace.Thresh),.lit (.int .i64 pace.Flying),.lit (.int .i64 pace.Since),.lit (.int .i64 flow.Max),.lit (.int .i64 flow.Used),.lit (.int .i64 credit.Max),.lit (.int .i64 credit.Used),.lit (.int .i64 ids),.lit (.int .i64 grant),.lit (.int .i64 opened),.ro (lanes.map encLane),.lit (.bool b1),.ro (queue.map encFrame),.lit (.int .i64 last),.lit (.int .i64 resets),.lit (.bool false),.lit (.int .i64 code)])),(1,some (.box 51 [.lit (.bool false),.lit (.int .i64 0),.lit (.slice none 0 0),.lit (.int .i64 0),.lit (.slice none 0 0),.lit (.slice none 0 0),.lit (.int .i64 0),.lit (.int .i64 0),.lit (.int .i64 0),.lit (.int .i64 0),.lit (.int .i64 0),.lit (.int .i64 0),.lit (.int .i64 0),.lit (.int .i64 0),.lit (.int .i64 0),.lit (.int .i64 0),.lit (.int .i64 0),.lit (.slice none 0 0),.lit (.bool false),.lit (.slice none 0 0),.lit (.int .i64 0),.lit (.int .i64 0),.lit (.bool false),.lit (.int .i64 0)]))],2,Tryz.f108.ntmps⟩) (fun _=>True) ?_ ?_
        · unfold ackL at hA
          dsimp only at hA
          by_cases ha:b1=true∧0<space.Heard.length
          · rw [if_pos ha] at hA
            subst hA
            obtain ⟨hb,hh⟩:=ha
            subst hb
            (repeat' first|(refine s_call (hBk) (h:=?_))|(refine p_call (hBk) (h:=?_))|(refine go_ ?_;((repeat' first|exact True.intro|refine Two.mk ?_ ?_);all_goals intros))|fail "")
            all_goals first
              | (refine ⟨(),trivial,?_⟩;refine (less_roS 9 (l:=[ackRaw space.Heard]) (l':=[ackF space.Heard].map encFrame) rfl rfl (ackRaw_len _) (ackRaw_wk _)).trans ?_;(exact lessA_))
              | (exfalso;simp only [List.length_map] at *;omega)
              | skip
          · rw [if_neg ha] at hA
            subst hA
            cases b1
            · (repeat' first|(refine s_call (hBk) (h:=?_))|(refine p_call (hBk) (h:=?_))|(refine go_ ?_;((repeat' first|exact True.intro|refine Two.mk ?_ ?_);all_goals intros))|fail "")
              all_goals first
                | (refine ⟨(),trivial,?_⟩;refine (less_nilS 9 rfl).trans ?_;(exact lessA_))
                | (exfalso;omega)
                | skip
            · have ha:¬ 0<space.Heard.length:=fun h=>ha ⟨rfl,h⟩
              (repeat' first|(refine s_call (hBk) (h:=?_))|(refine p_call (hBk) (h:=?_))|(refine go_ ?_;((repeat' first|exact True.intro|refine Two.mk ?_ ?_);all_goals intros))|fail "")
              all_goals first
                | (refine ⟨(),trivial,?_⟩;refine (less_nilS 9 rfl).trans ?_;(exact lessA_))
                | (exfalso;simp only [List.length_map] at *;omega)
                | skip
        rintro ⟨⟩ -
        clear hBk hA h1
        obtain ⟨tk1,tk2,tk3,tk4,tk5⟩:=takeQ_ok queue A hqok hAok.1 (by omega)
        generalize hT:takeQ queue A=T at *
        obtain ⟨to,tq⟩:=T
        dsimp only at *
        (repeat' first|(refine s_app (r:=A.map encFrame) ?_ ?_ ?_ ?_ (h:=?_);(exact Z65_);(exact Z47_);(exact Z12_);(exact Z22_))|(refine s_app0R (r:=A.map encFrame) ?_ ?_ ?_ ?_ (h:=?_);(exact Z65_);(exact Z47_);(exact Z12_);(exact Z22_))|(refine p_app (r:=A.map encFrame) ?_ ?_ ?_ ?_ (h:=?_);(exact Z65_);(exact Z47_);(exact Z12_);(exact Z22_))|(refine goU_ 12 ?_;((repeat' first|exact True.intro|refine Two.mk ?_ ?_);all_goals intros))|fail "")
        refine r_cut (fun _:Unit=>⟨[(1,.lit (.int .i64 now)),(2,.ptr 0 0 0 0),(4,.ptr 1 0 0 0),(9,.ro (A.map encFrame)),(10,.ptr 2 0 0 0),(11,.own 3)],[(0,some (.box 51 [.lit (.bool b0),.lit (.int .i64 space.Next),.ro (space.Sent.map encParcel),.lit (.int .i64 space.Top),.ro (space.Heard.map encRange),.ro (space.Skip.map encI),.lit (.int .i64 pace.Window),.lit (.int .i64 pace.Thresh),.lit (.int .i64 pace.Flying),.lit (.int .i64 pace.Since),.lit (.int .i64 flow.Max),.lit (.int .i64 flow.Used),.lit (.int .i64 credit.Max),.lit (.int .i64 credit.Used),.lit (.int .i64 ids),.lit (.int .i64 grant),.lit (.int .i64 opened),.ro (lanes.map encLane),.lit (.bool b1),.ro (queue.map encFrame),.lit (.int .i64 last),.lit (.int .i64 resets),.lit (.bool false),.lit (.int .i64 code)])),(1,some (.box 51 [.lit (.bool false),.lit (.int .i64 0),.lit (.slice none 0 0),.lit (.int .i64 0),.lit (.slice none 0 0),.lit (.slice none 0 0),.lit (.int .i64 0),.lit (.int .i64 0),.lit (.int .i64 0),.lit (.int .i64 0),.lit (.int .i64 0),.lit (.int .i64 0),.lit (.int .i64 0),.lit (.int .i64 0),.lit (.int .i64 0),.lit (.int .i64 0),.lit (.int .i64 0),.lit (.slice none 0 0),.lit (.bool false),.lit (.slice none 0 0),.lit (.int .i64 0),.lit (.int .i64 0),.lit (.bool false),.lit (.int .i64 0)])),(2,some (.box 51 [.lit (.bool b0),.lit (.int .i64 space.Next),.ro (space.Sent.map encParcel),.lit (.int .i64 space.Top),.ro (space.Heard.map encRange),.ro (space.Skip.map encI),.lit (.int .i64 pace.Window),.lit (.int .i64 pace.Thresh),.lit (.int .i64 pace.Flying),.lit (.int .i64 pace.Since),.lit (.int .i64 flow.Max),.lit (.int .i64 flow.Used),.lit (.int .i64 credit.Max),.lit (.int .i64 credit.Used),.lit (.int .i64 ids),.lit (.int .i64 grant),.lit (.int .i64 opened),.ro (lanes.map encLane),.lit (.bool b1),.ro (tq.map encFrame),.lit (.int .i64 last),.lit (.int .i64 resets),.lit (.bool false),.lit (.int .i64 code)])),(3,some (.row 111 7 (to.map encFrame)))],4,Tryz.f108.ntmps⟩) (fun _=>True) ?_ ?_
        · refine r_block ?_
          refine r_for (fun x:List DFrame×List DFrame=>⟨[(1,.lit (.int .i64 now)),(2,.ptr 0 0 0 0),(4,.ptr 1 0 0 0),(9,.ro (A.map encFrame)),(10,.ptr 2 0 0 0),(11,.own 3)],[(0,some (.box 51 [.lit (.bool b0),.lit (.int .i64 space.Next),.ro (space.Sent.map encParcel),.lit (.int .i64 space.Top),.ro (space.Heard.map encRange),.ro (space.Skip.map encI),.lit (.int .i64 pace.Window),.lit (.int .i64 pace.Thresh),.lit (.int .i64 pace.Flying),.lit (.int .i64 pace.Since),.lit (.int .i64 flow.Max),.lit (.int .i64 flow.Used),.lit (.int .i64 credit.Max),.lit (.int .i64 credit.Used),.lit (.int .i64 ids),.lit (.int .i64 grant),.lit (.int .i64 opened),.ro (lanes.map encLane),.lit (.bool b1),.ro (queue.map encFrame),.lit (.int .i64 last),.lit (.int .i64 resets),.lit (.bool false),.lit (.int .i64 code)])),(1,some (.box 51 [.lit (.bool false),.lit (.int .i64 0),.lit (.slice none 0 0),.lit (.int .i64 0),.lit (.slice none 0 0),.lit (.slice none 0 0),.lit (.int .i64 0),.lit (.int .i64 0),.lit (.int .i64 0),.lit (.int .i64 0),.lit (.int .i64 0),.lit (.int .i64 0),.lit (.int .i64 0),.lit (.int .i64 0),.lit (.int .i64 0),.lit (.int .i64 0),.lit (.int .i64 0),.lit (.slice none 0 0),.lit (.bool false),.lit (.slice none 0 0),.lit (.int .i64 0),.lit (.int .i64 0),.lit (.bool false),.lit (.int .i64 0)])),(2,some (.box 51 [.lit (.bool b0),.lit (.int .i64 space.Next),.ro (space.Sent.map encParcel),.lit (.int .i64 space.Top),.ro (space.Heard.map encRange),.ro (space.Skip.map encI),.lit (.int .i64 pace.Window),.lit (.int .i64 pace.Thresh),.lit (.int .i64 pace.Flying),.lit (.int .i64 pace.Since),.lit (.int .i64 flow.Max),.lit (.int .i64 flow.Used),.lit (.int .i64 credit.Max),.lit (.int .i64 credit.Used),.lit (.int .i64 ids),.lit (.int .i64 grant),.lit (.int .i64 opened),.ro (lanes.map encLane),.lit (.bool b1),.ro (x.2.map encFrame),.lit (.int .i64 last),.lit (.int .i64 resets),.lit (.bool false),.lit (.int .i64 code)])),(3,some (.row 111 7 (x.1.map encFrame)))],4,Tryz.f108.ntmps⟩)
            (fun x=>takeQ x.2 x.1=(to,tq)∧okFs x.1∧okFs x.2∧x.1.length≤11∧x.2.length≤12) (fun x=>x.2.length) (A,queue) ⟨hT,hAok.1,hqok,by first|omega|(dsimp only;omega),hql⟩ (by (exact lessA_)) ?_
          clear hT
          rintro ⟨o,q⟩ ⟨hT,ho,hq,ho11,hq12⟩
          dsimp only at *
          have hs1:=sizeOf_fn o (fun f hf=>(ho f hf).2) (by omega)
          have hz:=szF_le (fun f hf=>(ho f hf).2)
          have hgo:q≠[]→o.length<11∧szF o+((frB (q.getD 0 default)).length:Int)≤352 → ∃ f q',q=f :: q' ∧ takeQ q' (o++[f])=(to,tq):=fun h1 h2=>by
            cases q with
            | nil=>exact absurd rfl h1
            | cons f q'=>
              have h2:o.length<11∧szF o+((frB f).length:Int)≤352:=h2
              unfold takeQ at hT
              rw [if_pos h2] at hT
              exact ⟨f,q',rfl,hT⟩
          have hno:(q=[] ∨ ¬ (o.length<11∧szF o+((frB (q.getD 0 default)).length:Int)≤352))→o=to∧q=tq:=fun h=>by
            cases q with
            | nil=>unfold takeQ at hT;cases hT;exact ⟨rfl,rfl⟩
            | cons f q'=>
              have h:¬ (o.length<11∧szF o+((frB f).length:Int)≤352):=h.resolve_left (by simp)
              unfold takeQ at hT
              rw [if_neg h] at hT
              cases hT;exact ⟨rfl,rfl⟩
          cases q with
          | nil=>
            obtain ⟨e1,e2⟩:=hno (.inl rfl)
            subst e1 e2
            clear hgo hno hT
            have hz0:(([]:List DFrame).length:Int)=0:=rfl
            (repeat' first|(refine s_snap (hs1) (h:=?_))|(refine p_snapO (hs1) (h:=?_))|(refine go_ ?_;((repeat' first|exact True.intro|refine Two.mk ?_ ?_);all_goals intros))|fail "")
            all_goals first
              | (refine ⟨(),?_,?_⟩;rotate_left 1;(exact lessA_);(exact Z68_))
              | (exfalso;omega)
              | (exfalso;simp only [List.length_map] at *;omega)
              | skip
          | cons f q'=>
            have hs2:=frameText_fn f (hq f List.mem_cons_self).2
            have hfb:=frB_len (hq f List.mem_cons_self).2
            have hgo:=hgo (by simp)
            have hno:=fun h=>hno (.inr h)
            rw [show (f :: q').getD 0 default=f from rfl] at hgo hno
            have hf:=hq f List.mem_cons_self
            have hq':okFs q':=fun g hg=>hq g (List.mem_cons_of_mem _ hg)
            rw [List.length_cons] at hq12
            have hlen:(f :: q').length=q'.length+1:=rfl
            generalize szF o=z at *
            by_cases hc:o.length<11∧z+((frB f).length:Int)≤352
            · obtain ⟨f2,q2,e,hT2⟩:=hgo hc
              cases e
              clear hgo hno hT
              (repeat' first|(refine s_snap (hs1) (h:=?_))|(refine p_snapO (hs1) (h:=?_))|(refine s_call (hs2) (h:=?_))|(refine p_call (hs2) (h:=?_))|(refine s_slice (r:=q') (1) (q'.length+1) ?_ ?_ ?_ ?_ ?_ (h:=?_);(exact Z36_);(exact Z36_);(focus omega);(focus omega);(exact Z55_))|(refine p_slice (r:=q') (1) (q'.length+1) ?_ ?_ ?_ ?_ ?_ (h:=?_);(exact Z36_);(exact Z36_);(focus omega);(focus omega);(exact Z55_))|(refine s_app (r:=(o++[f]).map encFrame) ?_ ?_ ?_ ?_ (h:=?_);(exact Z57_);(exact Z47_);(exact Z12_);(exact Z22_))|(refine s_app0R (r:=(o++[f]).map encFrame) ?_ ?_ ?_ ?_ (h:=?_);(exact Z57_);(exact Z47_);(exact Z12_);(exact Z22_))|(refine p_app (r:=(o++[f]).map encFrame) ?_ ?_ ?_ ?_ (h:=?_);(exact Z57_);(exact Z47_);(exact Z12_);(exact Z22_))|(refine go_ ?_;((repeat' first|exact True.intro|refine Two.mk ?_ ?_);all_goals intros))|fail "")
              all_goals first
                | (refine ⟨(o++[f],q'),?_,?_,?_⟩;rotate_left 2;(exact lessA_);(focus (dsimp only;rw [List.length_cons];omega));(exact Z14_))
                | (exfalso;omega)
                | (exfalso;simp only [List.length_map] at *;omega)
                | skip
            · obtain ⟨e1,e2⟩:=hno hc
              subst e1 e2
              clear hgo hno hT
              (repeat' first|(refine s_snap (hs1) (h:=?_))|(refine p_snapO (hs1) (h:=?_))|(refine s_call (hs2) (h:=?_))|(refine p_call (hs2) (h:=?_))|(refine go_ ?_;((repeat' first|exact True.intro|refine Two.mk ?_ ?_);all_goals intros))|fail "")
              all_goals first
                | (refine ⟨(),?_,?_⟩;rotate_left 1;(exact lessA_);(exact Z68_))
                | (exfalso;omega)
                | (exfalso;simp only [List.length_map] at *;omega)
                | skip
        rintro ⟨⟩ -
        clear hT
        unfold flwOk at hfl
        have hpo:=packN_ok (cr:=credit.Max) hlu lanes.length 0 (lanes,credit.Used,to) (by omega) rfl (fun y hy=>W.wf_leLane y (hlu y hy).1) (by first|omega|(dsimp only;omega)) tk1 (by first|omega|(dsimp only;omega))
        generalize hPK:packN credit.Max lanes lanes.length 0 (lanes,credit.Used,to)=PP at *
        obtain ⟨pl,pu,po⟩:=PP
        obtain ⟨g1,g2,g3,g4,g5⟩:=hpo
        dsimp only at *
        have hS:=sizeOf_fn po (fun f hf=>(g4 f hf).2) (by omega)
        have hP:=pSent_fn pace hwp (szF po)
        have hSd:=sent_fn space now (szF po) po hws
        generalize paceSendV pace (szF po)=PV at *
        generalize spSend space now (szF po) po=SV at *
        obtain ⟨p2,may,pe⟩:=PV
        obtain ⟨s2,num,se⟩:=SV
        unfold encPB at hP
        dsimp only at *
        refine r_cut (fun _:Unit=>⟨[(1,.lit (.int .i64 now)),(2,.ptr 0 0 0 0),(4,.ptr 1 0 0 0),(9,.ro (A.map encFrame)),(10,.ptr 2 0 0 0),(11,.ro (po.map encFrame))],[(0,some (.box 51 [.lit (.bool b0),.lit (.int .i64 space.Next),.ro (space.Sent.map encParcel),.lit (.int .i64 space.Top),.ro (space.Heard.map encRange),.ro (space.Skip.map encI),.lit (.int .i64 pace.Window),.lit (.int .i64 pace.Thresh),.lit (.int .i64 pace.Flying),.lit (.int .i64 pace.Since),.lit (.int .i64 flow.Max),.lit (.int .i64 flow.Used),.lit (.int .i64 credit.Max),.lit (.int .i64 credit.Used),.lit (.int .i64 ids),.lit (.int .i64 grant),.lit (.int .i64 opened),.ro (lanes.map encLane),.lit (.bool b1),.ro (queue.map encFrame),.lit (.int .i64 last),.lit (.int .i64 resets),.lit (.bool false),.lit (.int .i64 code)])),(1,some (.box 51 [.lit (.bool false),.lit (.int .i64 0),.lit (.slice none 0 0),.lit (.int .i64 0),.lit (.slice none 0 0),.lit (.slice none 0 0),.lit (.int .i64 0),.lit (.int .i64 0),.lit (.int .i64 0),.lit (.int .i64 0),.lit (.int .i64 0),.lit (.int .i64 0),.lit (.int .i64 0),.lit (.int .i64 0),.lit (.int .i64 0),.lit (.int .i64 0),.lit (.int .i64 0),.lit (.slice none 0 0),.lit (.bool false),.lit (.slice none 0 0),.lit (.int .i64 0),.lit (.int .i64 0),.lit (.bool false),.lit (.int .i64 0)])),(2,some (.box 51 [.lit (.bool b0),.lit (.int .i64 space.Next),.ro (space.Sent.map encParcel),.lit (.int .i64 space.Top),.ro (space.Heard.map encRange),.ro (space.Skip.map encI),.lit (.int .i64 pace.Window),.lit (.int .i64 pace.Thresh),.lit (.int .i64 pace.Flying),.lit (.int .i64 pace.Since),.lit (.int .i64 flow.Max),.lit (.int .i64 flow.Used),.lit (.int .i64 credit.Max),.lit (.int .i64 pu),.lit (.int .i64 ids),.lit (.int .i64 grant),.lit (.int .i64 opened),.ro (pl.map encLane),.lit (.bool b1),.ro (tq.map encFrame),.lit (.int .i64 last),.lit (.int .i64 resets),.lit (.bool false),.lit (.int .i64 code)]))],3,Tryz.f108.ntmps⟩) (fun _=>True) ?_ ?_
        · clear hS hP hSd g1 g2 g3 g4 g5 hQl
          (repeat' first|(refine go_ ?_;((repeat' first|exact True.intro|refine Two.mk ?_ ?_);all_goals intros))|fail "")
          refine r_for (fun x:Nat×List DLane×Int×List DFrame=>⟨[(1,.lit (.int .i64 now)),(2,.ptr 0 0 0 0),(4,.ptr 1 0 0 0),(9,.ro (A.map encFrame)),(10,.ptr 2 0 0 0),(11,.own 3),(98,.lit (.int .i64 lanes.length)),(99,.lit (.int .i64 x.1))],[(0,some (.box 51 [.lit (.bool b0),.lit (.int .i64 space.Next),.ro (space.Sent.map encParcel),.lit (.int .i64 space.Top),.ro (space.Heard.map encRange),.ro (space.Skip.map encI),.lit (.int .i64 pace.Window),.lit (.int .i64 pace.Thresh),.lit (.int .i64 pace.Flying),.lit (.int .i64 pace.Since),.lit (.int .i64 flow.Max),.lit (.int .i64 flow.Used),.lit (.int .i64 credit.Max),.lit (.int .i64 credit.Used),.lit (.int .i64 ids),.lit (.int .i64 grant),.lit (.int .i64 opened),.ro (lanes.map encLane),.lit (.bool b1),.ro (queue.map encFrame),.lit (.int .i64 last),.lit (.int .i64 resets),.lit (.bool false),.lit (.int .i64 code)])),(1,some (.box 51 [.lit (.bool false),.lit (.int .i64 0),.lit (.slice none 0 0),.lit (.int .i64 0),.lit (.slice none 0 0),.lit (.slice none 0 0),.lit (.int .i64 0),.lit (.int .i64 0),.lit (.int .i64 0),.lit (.int .i64 0),.lit (.int .i64 0),.lit (.int .i64 0),.lit (.int .i64 0),.lit (.int .i64 0),.lit (.int .i64 0),.lit (.int .i64 0),.lit (.int .i64 0),.lit (.slice none 0 0),.lit (.bool false),.lit (.slice none 0 0),.lit (.int .i64 0),.lit (.int .i64 0),.lit (.bool false),.lit (.int .i64 0)])),(2,some (.box 51 [.lit (.bool b0),.lit (.int .i64 space.Next),.ro (space.Sent.map encParcel),.lit (.int .i64 space.Top),.ro (space.Heard.map encRange),.ro (space.Skip.map encI),.lit (.int .i64 pace.Window),.lit (.int .i64 pace.Thresh),.lit (.int .i64 pace.Flying),.lit (.int .i64 pace.Since),.lit (.int .i64 flow.Max),.lit (.int .i64 flow.Used),.lit (.int .i64 credit.Max),.lit (.int .i64 x.2.2.1),.lit (.int .i64 ids),.lit (.int .i64 grant),.lit (.int .i64 opened),.ro (x.2.1.map encLane),.lit (.bool b1),.ro (tq.map encFrame),.lit (.int .i64 last),.lit (.int .i64 resets),.lit (.bool false),.lit (.int .i64 code)])),(3,some (.row 111 7 (x.2.2.2.map encFrame)))],4,Tryz.f108.ntmps⟩)
            (fun x=>x.1≤lanes.length∧packN credit.Max lanes (lanes.length - x.1) x.1 x.2=(pl,pu,po)∧x.2.1.length=lanes.length∧(∀ j,x.1≤j→x.2.1.getD j default=lanes.getD j default)∧(0≤x.2.2.1∧x.2.2.1≤credit.Max)∧okFs x.2.2.2∧x.2.2.2.length≤12) (fun x=>lanes.length - x.1) (0,lanes,credit.Used,to) ⟨Nat.zero_le _,hPK,rfl,fun _ _=>rfl,by first|omega|(dsimp only;omega),tk1,by first|omega|(dsimp only;omega)⟩ (by (exact lessA_)) ?_
          clear hPK
          rintro ⟨k,ls,used,o⟩ ⟨hk,hm,hll2,hsame,hus,hok,ho12⟩
          dsimp only at *
          by_cases hkn:k<lanes.length
          · obtain ⟨n,hn⟩:∃ n,lanes.length - k=n+1:=⟨lanes.length - k - 1,by omega⟩
            rw [hn] at hm
            unfold packN at hm
            dsimp only at hm
            have hs:=sizeOf_fn o (fun f hf=>(hok f hf).2) (by omega)
            have hz:=szF_le (fun f hf=>(hok f hf).2)
            by_cases hst:o.length=12∨rmF o≤0
            · rw [if_pos hst] at hm
              unfold rmF at hst
              generalize szF o=z at *
              cases hm
              (repeat' first|(refine s_snap (hs) (h:=?_))|(refine p_snapO (hs) (h:=?_))|(refine go_ ?_;((repeat' first|exact True.intro|refine Two.mk ?_ ?_);all_goals intros))|fail "")
              all_goals first
                | (refine ⟨(),?_,?_⟩;rotate_left 1;(exact lessA_);(exact Z68_))
                | (exfalso;omega)
                | (exfalso;simp only [List.length_map] at *;omega)
                | skip
            · rw [if_neg hst] at hm
              obtain ⟨hul,hid1,hid2⟩:=hlu _ (getD_mem hkn)
              have hk2:=hsame k (Nat.le_refl k)
              rw [← hk2] at hm hul hid1 hid2
              have hp:=senderPieceRef_fn (ls.getD k default).Out (rmF o) (credit.Max - used) hul.2.2.2 (by unfold rmF I64;omega) (by unfold I64;omega)
              have hpk:=fun h1 h2=>pc_ok (s:=(ls.getD k default).Out) (room:=rmF o) (credit:=credit.Max - used) (id:=(ls.getD k default).Id) hul.2.2.2 ⟨hid1,hid2⟩ h1 h2
              have hnx:=hul.2.2.2.2.1
              unfold I64 at hnx
              have hrm:rmF o=min 120 (376 - szF o):=rfl
              generalize rmF o=rm at *
              have hm2:min 120 (376 - szF o)=rm:=by omega
              generalize szF o=z at *
              generalize pcR (ls.getD k default).Out rm (credit.Max - used)=Pc at *
              obtain ⟨S,F,ok,e⟩:=Pc
              unfold encPc at hp
              dsimp only at *
              by_cases hgo:e=0∧ok=true
              · rw [if_pos hgo] at hm
                obtain ⟨he,hb⟩:=hgo
                subst he hb
                obtain ⟨⟨d1,d2⟩,hwS,hwF,hfF⟩:=hpk rfl rfl
                have hwn:=hwS.2.1
                unfold I64 at hwn
                have hsl:=setLane_fn ⟨b0,space,pace,flow,⟨credit.Max,used+(S.Next - (ls.getD k default).Out.Next)⟩,ids,grant,opened,ls,b1,tq,last,resets,false,code⟩ k { ls.getD k default with Out:=S } (by dsimp only;omega) (by dsimp only;omega)
                unfold cnSet at hsl
                dsimp only at hsl
                (repeat' first|(refine s_snap (hs) (h:=?_))|(refine p_snapO (hs) (h:=?_))|(refine goU_ 20 ?_;((repeat' first|exact True.intro|refine Two.mk ?_ ?_);all_goals intros))|fail "")
                rw [hm2]
                (repeat' first|(refine s_call (hp) (h:=?_))|(refine p_call (hp) (h:=?_))|(refine s_call (hsl) (h:=?_))|(refine p_call (hsl) (h:=?_))|(refine s_app (r:=(o++[wId F (ls.getD k default).Id]).map encFrame) ?_ ?_ ?_ ?_ (h:=?_);(exact Z57_);(exact Z47_);(exact Z12_);(exact Z22_))|(refine s_app0R (r:=(o++[wId F (ls.getD k default).Id]).map encFrame) ?_ ?_ ?_ ?_ (h:=?_);(exact Z57_);(exact Z47_);(exact Z12_);(exact Z22_))|(refine p_app (r:=(o++[wId F (ls.getD k default).Id]).map encFrame) ?_ ?_ ?_ ?_ (h:=?_);(exact Z57_);(exact Z47_);(exact Z12_);(exact Z22_))|(refine go_ ?_;((repeat' first|exact True.intro|refine Two.mk ?_ ?_);all_goals intros))|fail "")
                all_goals first
                  | (refine ⟨(k+1,ls.set k { ls.getD k default with Out:=S },used+(S.Next - (ls.getD k default).Out.Next),o++[wId F (ls.getD k default).Id]),?_,?_,?_⟩;rotate_left 2;(exact lessA_);(exact Z66_);(focus (exact ⟨hkn,by (rw [show lanes.length - (k+1)=n by omega];exact hm),by (rw [List.length_set];exact hll2),fun j hj=>by (rw [getD_set_ne (by omega)];exact hsame j (by omega)),by (dsimp only;omega),okFs_snoc hok hwF hfF,by (rw [List.length_append,List.length_singleton];omega)⟩)))
                  | (exfalso;omega)
                  | (exfalso;simp only [List.length_map] at *;omega)
                  | skip
              · rw [if_neg hgo] at hm
                cases ok
                all_goals
                  (repeat' first|(refine s_snap (hs) (h:=?_))|(refine p_snapO (hs) (h:=?_))|(refine goU_ 20 ?_;((repeat' first|exact True.intro|refine Two.mk ?_ ?_);all_goals intros))|fail "")
                  rw [hm2]
                  (repeat' first|(refine s_call (hp) (h:=?_))|(refine p_call (hp) (h:=?_))|(refine go_ ?_;((repeat' first|exact True.intro|refine Two.mk ?_ ?_);all_goals intros))|fail "")
                  all_goals first
                    | (refine ⟨(k+1,ls,used,o),?_,?_,?_⟩;rotate_left 2;(exact lessA_);(exact Z66_);(focus (exact ⟨hkn,by (rw [show lanes.length - (k+1)=n by omega];exact hm),hll2,fun j hj=>hsame j (by omega),hus,hok,ho12⟩)))
                    | (exfalso;omega)
                    | (exfalso;simp only [List.length_map] at *;omega)
                    | (exfalso;exact hgo ⟨by omega,rfl⟩)
                    | skip
          · have hkl:k=lanes.length:=by omega
            subst hkl
            rw [Nat.sub_self] at hm
            unfold packN at hm
            cases hm
            (repeat' first|(refine go_ ?_;((repeat' first|exact True.intro|refine Two.mk ?_ ?_);all_goals intros))|fail "")
            all_goals first
              | (refine ⟨(),?_,?_⟩;rotate_left 1;(exact lessA_);(exact Z68_))
              | skip
        rintro ⟨⟩ -
        clear hPK hlu hqok hAok g2 g4 tk1 tk2 hq2 hws hwp
        refine r_cut (fun _:Unit=>⟨[(2,.ptr 0 0 0 0),(4,.ptr 1 0 0 0),(9,.ro (A.map encFrame))],[(0,some (.box 51 [.lit (.bool b0),.lit (.int .i64 space.Next),.ro (space.Sent.map encParcel),.lit (.int .i64 space.Top),.ro (space.Heard.map encRange),.ro (space.Skip.map encI),.lit (.int .i64 pace.Window),.lit (.int .i64 pace.Thresh),.lit (.int .i64 pace.Flying),.lit (.int .i64 pace.Since),.lit (.int .i64 flow.Max),.lit (.int .i64 flow.Used),.lit (.int .i64 credit.Max),.lit (.int .i64 credit.Used),.lit (.int .i64 ids),.lit (.int .i64 grant),.lit (.int .i64 opened),.ro (lanes.map encLane),.lit (.bool b1),.ro (queue.map encFrame),.lit (.int .i64 last),.lit (.int .i64 resets),.lit (.bool false),.lit (.int .i64 code)])),(1,some (.box 51 [.lit (.bool false),.lit (.int .i64 0),.lit (.slice none 0 0),.lit (.int .i64 0),.lit (.slice none 0 0),.lit (.slice none 0 0),.lit (.int .i64 0),.lit (.int .i64 0),.lit (.int .i64 0),.lit (.int .i64 0),.lit (.int .i64 0),.lit (.int .i64 0),.lit (.int .i64 0),.lit (.int .i64 0),.lit (.int .i64 0),.lit (.int .i64 0),.lit (.int .i64 0),.lit (.slice none 0 0),.lit (.bool false),.lit (.slice none 0 0),.lit (.int .i64 0),.lit (.int .i64 0),.lit (.bool false),.lit (.int .i64 0)]))],2,Tryz.f108.ntmps⟩) (fun _=>¬ (A.length<po.length∧may=true∧se=0)) ?_ ?_
        · by_cases hlt:A.length<po.length
          · by_cases hse:se=0
            · subst hse
              cases may
              · (repeat' first|(refine s_call (hS) (h:=?_))|(refine p_call (hS) (h:=?_))|(refine s_call (hP) (h:=?_))|(refine p_call (hP) (h:=?_))|(refine s_call (hSd) (h:=?_))|(refine p_call (hSd) (h:=?_))|(refine go_ ?_;((repeat' first|exact True.intro|refine Two.mk ?_ ?_);all_goals intros))|fail "")
                all_goals first
                  | (refine ⟨(),?_,?_⟩;rotate_left 1;(exact lessA_);(focus (exact fun h=>by cases h.2.1)))
                  | (exfalso;simp only [List.length_map] at *;omega)
                  | skip
              · rw [if_pos ⟨hlt,rfl,rfl⟩]
                unfold cnSn cnPk encFl
                dsimp only
                (repeat' first|(refine s_call (hS) (h:=?_))|(refine p_call (hS) (h:=?_))|(refine s_call (hP) (h:=?_))|(refine p_call (hP) (h:=?_))|(refine s_call (hSd) (h:=?_))|(refine p_call (hSd) (h:=?_))|(refine go_ ?_;((repeat' first|exact True.intro|refine Two.mk ?_ ?_);all_goals intros))|fail "")
                all_goals (try dsimp only at *)
                all_goals first
                  | (exact endwA_)
                  | (exfalso;simp only [List.length_map] at *;omega)
                  | skip
            · cases may
              all_goals
                (repeat' first|(refine s_call (hS) (h:=?_))|(refine p_call (hS) (h:=?_))|(refine s_call (hP) (h:=?_))|(refine p_call (hP) (h:=?_))|(refine s_call (hSd) (h:=?_))|(refine p_call (hSd) (h:=?_))|(refine go_ ?_;((repeat' first|exact True.intro|refine Two.mk ?_ ?_);all_goals intros))|fail "")
                all_goals first
                  | (refine ⟨(),?_,?_⟩;rotate_left 1;(exact lessA_);(focus (exact fun h=>hse h.2.2)))
                  | (exfalso;simp only [List.length_map] at *;omega)
                  | skip
          · (repeat' first|(refine go_ ?_;((repeat' first|exact True.intro|refine Two.mk ?_ ?_);all_goals intros))|fail "")
            all_goals first
              | (refine ⟨(),?_,?_⟩;rotate_left 1;(exact lessA_);(focus (exact fun h=>hlt h.1)))
              | (exfalso;simp only [List.length_map] at *;omega)
              | skip
        rintro ⟨⟩ hng
        (try dsimp only at hng)
        rw [if_neg hng]
        clear hng hSd hP hS
        unfold encFl at *
        generalize quietR ⟨b0,space,pace,flow,credit,ids,grant,opened,lanes,b1,queue,last,resets,false,code⟩ A=R at *
        obtain ⟨Rc,Rn,Rl,Re⟩:=R
        dsimp only at *
        (repeat' first|(refine s_call (hQl) (h:=?_))|(refine p_call (hQl) (h:=?_))|(refine go_ ?_;((repeat' first|exact True.intro|refine Two.mk ?_ ?_);all_goals intros))|fail "")
        all_goals (try dsimp only at *)
        all_goals first
          | (exact endwA_)
          | (exfalso;omega)
          | skip
      · rw [if_pos rfl]
        have hL:=quietly_fn ⟨b0,space,pace,flow,credit,ids,grant,opened,lanes,b1,queue,last,resets,true,code⟩ queue hw.1 (by dsimp only at hqlc;omega)
        clear hu hw hok
        dsimp only at *
        unfold encFl at *
        generalize quietR ⟨b0,space,pace,flow,credit,ids,grant,opened,lanes,b1,queue,last,resets,true,code⟩ queue=R at *
        obtain ⟨Rc,Rn,Rl,Re⟩:=R
        dsimp only at *
        refine fn_of_run (by kernel_rfl) Tryz.func108 rfl (by kernel_rfl) ?_
        (repeat' first|(refine s_call (h1) (h:=?_))|(refine p_call (h1) (h:=?_))|(refine s_call (hL) (h:=?_))|(refine p_call (hL) (h:=?_))|(refine s_dec (upTo_fn _ _) (ht:=?_) (hff:=?_) <;> intro _ <;> try (exfalso;omega))|(refine p_dec (upTo_fn _ _) (ht:=?_) (hff:=?_) <;> intro _ <;> try (exfalso;omega))|(refine go_ ?_;((repeat' first|exact True.intro|refine Two.mk ?_ ?_);all_goals intros))|fail "")
        all_goals (try dsimp only at *)
        all_goals first
          | (exact endwA_)
          | (exfalso;omega)
          | skip
    · rw [if_neg hnow]
      unfold encFl
      clear hu hw hok
      refine fn_of_run (by kernel_rfl) Tryz.func108 rfl (by kernel_rfl) ?_
      (repeat' first|(refine s_call (h1) (h:=?_))|(refine p_call (h1) (h:=?_))|(refine s_dec (upTo_fn _ _) (ht:=?_) (hff:=?_) <;> intro _ <;> try (exfalso;omega))|(refine p_dec (upTo_fn _ _) (ht:=?_) (hff:=?_) <;> intro _ <;> try (exfalso;omega))|(refine go_ ?_;((repeat' first|exact True.intro|refine Two.mk ?_ ?_);all_goals intros))|fail "")
      all_goals (try dsimp only at *)
      all_goals first
        | (exact endwA_)
        | (exfalso;omega)
        | skip
  · rw [h0] at h1 ⊢
    rw [if_neg (by decide)]
    unfold encFl
    clear hu hw hok
    refine fn_of_run (by kernel_rfl) Tryz.func108 rfl (by kernel_rfl) ?_
    (repeat' first|(refine s_call (h1) (h:=?_))|(refine p_call (h1) (h:=?_))|(refine go_ ?_;((repeat' first|exact True.intro|refine Two.mk ?_ ?_);all_goals intros))|fail "")
    all_goals first
      | (exact endwA_)
      | skip
end Go.Proofs.YtendheafcbickaaGreat
