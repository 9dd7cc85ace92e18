/-
  SEVERAL TEXTS IN ONE: each with its own comment.
-/
import Derived.Test.YtendheafcbickaaGreatHGo
import Derived.Test.YtendheafcbickaaGreatHMg12
import Derived.Test.YtendheafcbickaaGreatHMg21
import Derived.Test.YtendheafcbickaaGreatHZip
import Derived.Test.YtendheafcbickaaGreatHMg33
import Derived.Test.YtendheafcbickaaGreatHSndT

set_option linter.unusedVariables false
set_option linter.unusedSimpArgs false
set_option linter.unusedVariables false
namespace Go.Proofs.YtendheafcbickaaGreat
set_option maxRecDepth 100000
attribute [local irreducible] Run RunL QStep GStep Fn Less PL FnM
def spZero:DSpace:=⟨0,[],0,[],[]⟩
noncomputable def spLeap (s:DSpace):DSpace×Int:=if spFlt s≠0 then (spZero,spFlt s) else if s.Next=4611686018427387903 then (spZero,8) else (⟨s.Next+1,s.Sent,s.Top,s.Heard,(s.Skip++[s.Next]).drop (s.Skip.length+1 - 6)⟩,0)
noncomputable def spQuiet (s:DSpace):DSpace×Int×Int:=if spFlt s≠0 then (spZero,0,spFlt s) else if s.Next=4611686018427387903 then (spZero,0,8) else (⟨s.Next+1,s.Sent,s.Top,s.Heard,s.Skip⟩,s.Next,0)
set_option maxHeartbeats 1000000 in
theorem quiet_fn (s:DSpace) (hw:wfSpace s):Fn Tryz.prog 212 [.agg (encSpace s)] (.tup [.agg (encSpace (spQuiet s).1),.lit (.int .i64 (spQuiet s).2.1),.lit (.int .i64 (spQuiet s).2.2)]):=by
  have h1:=spaceCheck_fn s hw
  unfold spQuiet
  rcases spFlt_cases s with ⟨h0,ho⟩ | ⟨h0,ho⟩
  · rw [h0] at h1 ⊢
    rw [if_neg (by omega)]
    have hh:=ho.1.1
    unfold spHead at hh
    have h2:=fresh_fnm s hw
    by_cases c1:s.Next=4611686018427387903
    · rw [if_pos c1]
      refine fn_of_run (by kernel_rfl) Tryz.func212 rfl (by kernel_rfl) ?_
      (repeat' first|(refine s_call (h1) (h:=?_))|(refine p_call (h1) (h:=?_))|(refine go_ ?_;((repeat' first|exact True.intro|refine Two.mk ?_ ?_);all_goals intros))|fail "")
      all_goals (exact endwA_)
    · rw [if_neg c1]
      refine fn_of_run (by kernel_rfl) Tryz.func212 rfl (by kernel_rfl) ?_
      (repeat' first|(refine s_call (h1) (h:=?_))|(refine p_call (h1) (h:=?_))|(refine s_callM [] (h2) (h:=?_))|(refine go_ ?_;((repeat' first|exact True.intro|refine Two.mk ?_ ?_);all_goals intros))|fail "")
      all_goals (exact endwA_)
  · rw [h0] at h1 ⊢
    rw [if_pos (by omega)]
    refine fn_of_run (by kernel_rfl) Tryz.func212 rfl (by kernel_rfl) ?_
    (repeat' first|(refine s_call (h1) (h:=?_))|(refine p_call (h1) (h:=?_))|(refine go_ ?_;((repeat' first|exact True.intro|refine Two.mk ?_ ?_);all_goals intros))|fail "")
    all_goals (exact endwA_)
set_option maxHeartbeats 1000000 in
theorem quietRef_fn (s:DSpace) (hw:wfSpace s):Fn Tryz.prog 281 [.agg (encSpace s)] (.tup [.agg (encSpace (spQuiet s).1),.lit (.int .i64 (spQuiet s).2.1),.lit (.int .i64 (spQuiet s).2.2)]):=by
  have h1:=spaceFault_fn s hw
  unfold spQuiet
  rcases spFlt_cases s with ⟨h0,ho⟩ | ⟨h0,ho⟩
  · rw [h0] at h1 ⊢
    rw [if_neg (by omega)]
    have hh:=ho.1.1
    unfold spHead at hh
    by_cases c1:s.Next=4611686018427387903
    · rw [if_pos c1]
      refine fn_of_run (by kernel_rfl) Tryz.func281 rfl (by kernel_rfl) ?_
      (repeat' first|(refine s_call (h1) (h:=?_))|(refine p_call (h1) (h:=?_))|(refine go_ ?_;((repeat' first|exact True.intro|refine Two.mk ?_ ?_);all_goals intros))|fail "")
      all_goals (exact endwA_)
    · rw [if_neg c1]
      refine fn_of_run (by kernel_rfl) Tryz.func281 rfl (by kernel_rfl) ?_
      (repeat' first|(refine s_call (h1) (h:=?_))|(refine p_call (h1) (h:=?_))|(refine go_ ?_;((repeat' first|exact True.intro|refine Two.mk ?_ ?_);all_goals intros))|fail "")
      all_goals (exact endwA_)
  · rw [h0] at h1 ⊢
    rw [if_pos (by omega)]
    refine fn_of_run (by kernel_rfl) Tryz.func281 rfl (by kernel_rfl) ?_
    (repeat' first|(refine s_call (h1) (h:=?_))|(refine p_call (h1) (h:=?_))|(refine go_ ?_;((repeat' first|exact True.intro|refine Two.mk ?_ ?_);all_goals intros))|fail "")
    all_goals (exact endwA_)
theorem spQuiet_wf (s:DSpace) (hw:wfSpace s):wfSpace (spQuiet s).1:=by
  have hz:wfSpace spZero:=by unfold wfSpace spZero I64;simp
  unfold spQuiet
  rcases spFlt_cases s with ⟨h0,ho⟩ | ⟨h0,ho⟩
  · rw [h0,if_neg (by omega)]
    split
    · exact hz
    · have hh:=ho.1.1
      unfold spHead at hh
      exact ⟨by unfold I64;dsimp only;omega,hw.2⟩
  · rw [h0,if_pos (by omega)];exact hz
end Go.Proofs.YtendheafcbickaaGreat


set_option linter.unusedVariables false
set_option linter.unusedSimpArgs false
set_option linter.unusedVariables false
namespace Go.Proofs.YtendheafcbickaaGreat
set_option maxRecDepth 100000
attribute [local irreducible] Run RunL QStep GStep Fn Less PL FnM
def sdBad (now size:Int):Prop:=¬ (0≤now∧now≤1099511627776∧0≤size∧size≤400)
def sdFull (s:DSpace):Prop:=s.Sent.length=24∨s.Next=4611686018427387903
instance (now size:Int):Decidable (sdBad now size):=inferInstanceAs (Decidable (¬ _))
instance (s:DSpace):Decidable (sdFull s):=inferInstanceAs (Decidable (_∨_))
noncomputable def spSend (s:DSpace) (now size:Int) (l:List DFrame):DSpace×Int×Int:=
  if spFlt s≠0 then (⟨0,[],0,[],[]⟩,0,spFlt s) else if sdBad now size then (⟨0,[],0,[],[]⟩,0,6) else if sdFull s then (⟨0,[],0,[],[]⟩,0,8)
  else (⟨s.Next+1,s.Sent++[⟨s.Next,now,size,l⟩],s.Top,s.Heard,s.Skip⟩,s.Next,0)
set_option maxHeartbeats 1000000 in
theorem send_fn (s:DSpace) (now size:Int) (l:List DFrame) (hw:wfSpace s) (hl:l.length * 88≤140737488351232) (hf:∀ y,y ∈ l→wfFrame y):Fn Tryz.prog 211 [.agg (encSpace s),.lit (.int .i64 now),.lit (.int .i64 size),.ro (l.map encFrame)] (.tup [.agg (encSpace (spSend s now size l).1),.lit (.int .i64 (spSend s now size l).2.1),.lit (.int .i64 (spSend s now size l).2.2)]):=by
  have h1:=spaceCheck_fn s hw
  have h3:=frames_fn l hf hl
  unfold spSend
  rcases spFlt_cases s with ⟨h0,ho⟩ | ⟨h0,ho⟩
  · rw [h0] at h1 ⊢
    rw [if_neg (by omega)]
    have hh:=ho.1.1
    unfold spHead at hh
    have h2:=fresh_fnm s hw
    by_cases c1:sdBad now size
    · rw [if_pos c1]
      unfold sdBad at c1
      refine fn_of_run (by kernel_rfl) Tryz.func211 rfl (by kernel_rfl) ?_
      (repeat' first|(refine s_call (h1) (h:=?_))|(refine p_call (h1) (h:=?_))|(refine go_ ?_;((repeat' first|exact True.intro|refine Two.mk ?_ ?_);all_goals intros))|fail "")
      all_goals (exact endwA_)
    · rw [if_neg c1]
      unfold sdBad at c1
      by_cases c2:sdFull s
      · rw [if_pos c2]
        unfold sdFull at c2
        refine fn_of_run (by kernel_rfl) Tryz.func211 rfl (by kernel_rfl) ?_
        (repeat' first|(refine s_call (h1) (h:=?_))|(refine p_call (h1) (h:=?_))|(refine go_ ?_;((repeat' first|exact True.intro|refine Two.mk ?_ ?_);all_goals intros))|fail "")
        all_goals (exact endwA_)
      · rw [if_neg c2]
        unfold sdFull at c2
        refine fn_of_run (by kernel_rfl) Tryz.func211 rfl (by kernel_rfl) ?_
        (repeat' first|(refine s_call (h1) (h:=?_))|(refine p_call (h1) (h:=?_))|(refine s_call (h3) (h:=?_))|(refine p_call (h3) (h:=?_))|(refine s_callM [] (h2) (h:=?_))|(refine s_app (r:=(s.Sent++[DParcel.mk s.Next now size l]).map encParcel) ?_ ?_ ?_ ?_ (h:=?_);(exact Z65_);(exact Z47_);(exact Z12_);(exact Z22_))|(refine s_app0R (r:=(s.Sent++[DParcel.mk s.Next now size l]).map encParcel) ?_ ?_ ?_ ?_ (h:=?_);(exact Z65_);(exact Z47_);(exact Z12_);(exact Z22_))|(refine p_app (r:=(s.Sent++[DParcel.mk s.Next now size l]).map encParcel) ?_ ?_ ?_ ?_ (h:=?_);(exact Z65_);(exact Z47_);(exact Z12_);(exact Z22_))|(refine go_ ?_;((repeat' first|exact True.intro|refine Two.mk ?_ ?_);all_goals intros))|fail "")
        all_goals (exact endwA_)
  · rw [h0] at h1 ⊢
    rw [if_pos (by omega)]
    refine fn_of_run (by kernel_rfl) Tryz.func211 rfl (by kernel_rfl) ?_
    (repeat' first|(refine s_call (h1) (h:=?_))|(refine p_call (h1) (h:=?_))|(refine go_ ?_;((repeat' first|exact True.intro|refine Two.mk ?_ ?_);all_goals intros))|fail "")
    all_goals (exact endwA_)
set_option maxHeartbeats 1000000 in
theorem sent_fn (s:DSpace) (now size:Int) (l:List DFrame) (hw:wfSpace s):Fn Tryz.prog 224 [.agg (encSpace s),.lit (.int .i64 now),.lit (.int .i64 size),.ro (l.map encFrame)] (.tup [.agg (encSpace (spSend s now size l).1),.lit (.int .i64 (spSend s now size l).2.1),.lit (.int .i64 (spSend s now size l).2.2)]):=by
  have h1:=spaceFault_fn s hw
  unfold spSend
  rcases spFlt_cases s with ⟨h0,ho⟩ | ⟨h0,ho⟩
  · rw [h0] at h1 ⊢
    rw [if_neg (by omega)]
    have hh:=ho.1.1
    unfold spHead at hh
    by_cases c1:sdBad now size
    · rw [if_pos c1]
      unfold sdBad at c1
      refine fn_of_run (by kernel_rfl) Tryz.func224 rfl (by kernel_rfl) ?_
      (repeat' first|(refine s_call (h1) (h:=?_))|(refine p_call (h1) (h:=?_))|(refine s_dec (upTo_fn _ _) (ht:=?_) (hff:=?_) <;> intro _ <;> try (exfalso;omega))|(refine p_dec (upTo_fn _ _) (ht:=?_) (hff:=?_) <;> intro _ <;> try (exfalso;omega))|(refine go_ ?_;((repeat' first|exact True.intro|refine Two.mk ?_ ?_);all_goals intros))|fail "")
      all_goals (exact endwA_)
    · rw [if_neg c1]
      unfold sdBad at c1
      by_cases c2:sdFull s
      · rw [if_pos c2]
        unfold sdFull at c2
        refine fn_of_run (by kernel_rfl) Tryz.func224 rfl (by kernel_rfl) ?_
        (repeat' first|(refine s_call (h1) (h:=?_))|(refine p_call (h1) (h:=?_))|(refine s_dec (upTo_fn _ _) (ht:=?_) (hff:=?_) <;> intro _ <;> try (exfalso;omega))|(refine p_dec (upTo_fn _ _) (ht:=?_) (hff:=?_) <;> intro _ <;> try (exfalso;omega))|(refine go_ ?_;((repeat' first|exact True.intro|refine Two.mk ?_ ?_);all_goals intros))|fail "")
        all_goals (exact endwA_)
      · rw [if_neg c2]
        unfold sdFull at c2
        refine fn_of_run (by kernel_rfl) Tryz.func224 rfl (by kernel_rfl) ?_
        (repeat' first|(refine s_call (h1) (h:=?_))|(refine p_call (h1) (h:=?_))|(refine s_dec (upTo_fn _ _) (ht:=?_) (hff:=?_) <;> intro _ <;> try (exfalso;omega))|(refine p_dec (upTo_fn _ _) (ht:=?_) (hff:=?_) <;> intro _ <;> try (exfalso;omega))|(refine s_app (r:=s.Sent.map encParcel) ?_ ?_ ?_ ?_ (h:=?_);(exact Z65_);(exact Z47_);(exact Z12_);(exact Z22_))|(refine s_app0R (r:=s.Sent.map encParcel) ?_ ?_ ?_ ?_ (h:=?_);(exact Z65_);(exact Z47_);(exact Z12_);(exact Z22_))|(refine p_app (r:=s.Sent.map encParcel) ?_ ?_ ?_ ?_ (h:=?_);(exact Z65_);(exact Z47_);(exact Z12_);(exact Z22_))|(refine s_app (r:=(s.Sent++[DParcel.mk s.Next now size l]).map encParcel) ?_ ?_ ?_ ?_ (h:=?_);(exact Z65_);(exact Z47_);(exact Z12_);(exact Z22_))|(refine s_app0R (r:=(s.Sent++[DParcel.mk s.Next now size l]).map encParcel) ?_ ?_ ?_ ?_ (h:=?_);(exact Z65_);(exact Z47_);(exact Z12_);(exact Z22_))|(refine p_app (r:=(s.Sent++[DParcel.mk s.Next now size l]).map encParcel) ?_ ?_ ?_ ?_ (h:=?_);(exact Z65_);(exact Z47_);(exact Z12_);(exact Z22_))|(refine go_ ?_;((repeat' first|exact True.intro|refine Two.mk ?_ ?_);all_goals intros))|fail "")
        all_goals (exact endwA_)
  · rw [h0] at h1 ⊢
    rw [if_pos (by omega)]
    refine fn_of_run (by kernel_rfl) Tryz.func224 rfl (by kernel_rfl) ?_
    (repeat' first|(refine s_call (h1) (h:=?_))|(refine p_call (h1) (h:=?_))|(refine go_ ?_;((repeat' first|exact True.intro|refine Two.mk ?_ ?_);all_goals intros))|fail "")
    all_goals (exact endwA_)
theorem spSend_wf (s:DSpace) (now size:Int) (l:List DFrame) (hw:wfSpace s) (hl:l.length * 88≤140737488351232) (hf:∀ y,y ∈ l→wfFrame y):wfSpace (spSend s now size l).1:=by
  have hz:wfSpace ⟨0,[],0,[],[]⟩:=by unfold wfSpace I64;simp
  unfold spSend
  rcases spFlt_cases s with ⟨h0,ho⟩ | ⟨h0,ho⟩
  · rw [h0,if_neg (by omega)]
    split
    · exact hz
    · rename_i c1
      split
      · exact hz
      · have hh:=ho.1.1
        unfold spHead at hh
        unfold sdBad at c1
        refine ⟨by unfold I64;dsimp only;omega,by dsimp only;rw [List.length_append];simp;omega,fun y hy=>?_,hw.2.2.2⟩
        rcases List.mem_append.1 hy with h|h
        · exact hw.2.2.1 y h
        · rw [List.mem_singleton.1 h]
          exact ⟨by unfold I64;dsimp only;omega,by unfold I64;dsimp only;omega,by unfold I64;dsimp only;omega,hl,hf⟩
  · rw [h0,if_pos (by omega)];exact hz
end Go.Proofs.YtendheafcbickaaGreat


set_option linter.unusedVariables false
set_option linter.unusedSimpArgs false
set_option linter.unusedVariables false
namespace Go.Proofs.YtendheafcbickaaGreat
set_option maxRecDepth 100000
def ackF (l:List DRange):DFrame:=⟨2,0,0,false,0,l.reverse,[]⟩
def ackL (c:DConn):List DFrame:=if c.Owes=true∧0<c.Space.Heard.length then [ackF c.Space.Heard] else []
def takeQ:List DFrame→List DFrame→List DFrame×List DFrame
  | [],out=>(out,[])
  | f :: q,out=>if out.length<11∧szF out+((frB f).length:Int)≤352 then takeQ q (out++[f]) else (out,f :: q)
def rmF (out:List DFrame):Int:=min 120 (376 - szF out)
def wId (f:DFrame) (id:Int):DFrame:=⟨f.Kind,id,f.Off,f.Fin,f.Code,f.Ranges,f.Data⟩
noncomputable def packN (cr:Int) (l:List DLane):Nat→Nat→List DLane×Int×List DFrame→List DLane×Int×List DFrame
  | 0,_,s=>s
  | n+1,k,s=>
    if s.2.2.length=12∨rmF s.2.2≤0 then s
    else if (pcR (l.getD k default).Out (rmF s.2.2) (cr - s.2.1)).2.2.2=0∧(pcR (l.getD k default).Out (rmF s.2.2) (cr - s.2.1)).2.2.1=true then
      packN cr l n (k+1) (s.1.set k { l.getD k default with Out:=(pcR (l.getD k default).Out (rmF s.2.2) (cr - s.2.1)).1 },s.2.1+((pcR (l.getD k default).Out (rmF s.2.2) (cr - s.2.1)).1.Next - (l.getD k default).Out.Next),s.2.2++[wId (pcR (l.getD k default).Out (rmF s.2.2) (cr - s.2.1)).2.1 (l.getD k default).Id])
    else packN cr l n (k+1) s
def okFs (l:List DFrame):Prop:=∀ f ∈ l,wfFrame f∧frFlt f=0
theorem okFs_snoc {l:List DFrame} {f:DFrame} (h:okFs l) (h1:wfFrame f) (h2:frFlt f=0):okFs (l++[f]):=fun x hx=>by
  rcases List.mem_append.1 hx with hx|hx
  · exact h x hx
  · rw [List.mem_singleton] at hx;exact hx ▸ ⟨h1,h2⟩
theorem ack_ok {l:List DRange} (hw:∀ y,y ∈ l→wfRange y) (h6:l.length≤6) (h0:0<l.length) (hr:rFlt l=0):wfFrame (ackF l)∧frFlt (ackF l)=0:=by
  unfold ackF
  constructor
  · unfold wfFrame I64
    exact ⟨by dsimp only;omega,by dsimp only;omega,by dsimp only;omega,by dsimp only;omega,by dsimp only;rw [List.length_reverse];omega,fun y hy=>hw y (List.mem_reverse.1 hy),by simp⟩
  · unfold frFlt
    dsimp only
    rw [List.reverse_reverse,List.length_reverse,if_neg (by decide),if_neg (by simp;omega)]
    rw [if_neg (by unfold mayP;rw [show hasI (hasB 2) 105=false by decide,show hasI (hasB 2) 111=false by decide];simp),if_neg (by rw [show hasI (hasB 2) 100=false by decide];simp)]
    exact if_neg (by
      rintro (⟨_,h⟩ | ⟨_,h⟩|h|h)
      · simp at h
      · cases h
      · exact h ⟨fun _=>h0,fun _=>rfl⟩
      · exact h hr)
theorem pc_ok {s:DSender} {room credit id:Int} (hw:U.wfSender s) (hid:0≤id∧id≤4611686018427387903) (he:(pcR s room credit).2.2.2=0) (hb:(pcR s room credit).2.2.1=true) :
    (0≤(pcR s room credit).1.Next - s.Next∧(pcR s room credit).1.Next - s.Next≤credit)∧wfSender (pcR s room credit).1∧wfFrame (wId (pcR s room credit).2.1 id)∧frFlt (wId (pcR s room credit).2.1 id)=0:=by
  unfold pcR at *
  rcases sndFlt_cases s with ⟨h0,hok⟩ | ⟨h0,hbad⟩
  · rw [if_neg (by omega)] at he hb ⊢
    by_cases hq:0≤room∧room≤120∧0≤credit
    · rw [if_neg (fun h=>h hq)] at he hb ⊢
      obtain ⟨⟨f1,f2,f3,f4,f5⟩,f6,f7,g1,g2,g3⟩:=pc_facts hok hq
      have hn:pcN s room credit≤room:=by unfold pcN;split <;> omega
      have hnx:max s.Next (pcLo s room+pcN s room credit) - s.Next≤credit:=by
        unfold pcLo pcN
        split
        · rename_i h;have:=f7 h.1;omega
        · omega
      have hset:=fun h:0<pcN s room credit=>rCut_set (l:=s.Lost) (a:=-2) (r:=⟨pcLo s room,pcLo s room+pcN s room credit - 1⟩) (by unfold rGood;dsimp only;omega) f6
      have hlen:=fun h:0<pcN s room credit=>rCut_len600 (r:=⟨pcLo s room,pcLo s room+pcN s room credit - 1⟩) f6 (by unfold rGood;dsimp only;omega) (Nat.le_refl s.Lost.length)
      generalize pcFin s (pcLo s room) (pcN s room credit)=fin at *
      generalize pcN s room credit=n at *
      generalize pcLo s room=lo at *
      unfold pcDo at *
      by_cases hz:n=0∧fin=false
      · rw [if_pos hz] at hb;cases hb
      · rw [if_neg hz] at he hb ⊢
        dsimp only
        have hdl:((s.Data.take (lo+n).toNat).drop lo.toNat).length=n.toNat:=by rw [List.length_drop,List.length_take];omega
        have w4:=hw.2.2.2.1
        have w6:=hw.2.2.2.2.2.1
        refine ⟨⟨by omega,hnx⟩,⟨by dsimp only;omega,by unfold I64;dsimp only;omega,by unfold I64;dsimp only;omega,?_,?_,by dsimp only;omega,hw.2.2.2.2.2.2⟩,?_,?_⟩
        · dsimp only
          split
          · have:=hlen (by assumption);omega
          · omega
        · dsimp only
          split
          · intro y hy
            have hg:=(rSet_good (hset (by assumption)) y hy).1
            unfold rGood at hg
            unfold wfRange I64;omega
          · exact hw.2.2.2.2.1
        · unfold wId wfFrame I64
          exact ⟨by dsimp only;omega,by dsimp only;omega,by dsimp only;omega,by dsimp only;omega,by simp,(fun y hy=>by cases hy),by dsimp only;rw [hdl];omega⟩
        · unfold wId frFlt
          dsimp only
          rw [hdl,if_neg (by decide),if_neg (by simp;omega)]
          rw [if_neg (by unfold mayP;rw [show hasI (hasB 8) 105=true by decide,show hasI (hasB 8) 111=true by decide];simp;omega),if_neg (by simp;omega)]
          exact if_neg (by
            rintro (⟨h,_⟩ | ⟨h,_⟩|h|h)
            · rw [show hasI (hasB 8) 100=true by decide] at h;cases h
            · rw [show hasI (hasB 8) 102=true by decide] at h;cases h
            · exact h ⟨fun e=>by omega,fun e=>by simp at e⟩
            · exact h (by simp [rFlt,rSet]))
    · rw [if_pos hq] at hb;cases hb
  · rw [if_pos (by omega)] at hb;cases hb
theorem takeQ_ok:∀ (q out:List DFrame),okFs q→okFs out→out.length≤11→okFs (takeQ q out).1∧okFs (takeQ q out).2∧(takeQ q out).1.length≤11∧(takeQ q out).2.length≤q.length∧out.length≤(takeQ q out).1.length
  | [],out,_,ho,hl=>⟨ho,(fun f hf=>by cases hf),hl,Nat.le_refl _,Nat.le_refl _⟩
  | f :: q,out,hq,ho,hl=>by
    unfold takeQ
    split
    · rename_i h
      have hf:=hq f List.mem_cons_self
      have:=takeQ_ok q (out++[f]) (fun g hg=>hq g (List.mem_cons_of_mem _ hg)) (okFs_snoc ho hf.1 hf.2) (by rw [List.length_append,List.length_singleton];omega)
      obtain ⟨h1,h2,h3,h4,h5⟩:=this
      rw [List.length_append,List.length_singleton] at h5
      exact ⟨h1,h2,h3,by rw [List.length_cons];omega,by omega⟩
    · exact ⟨ho,hq,hl,Nat.le_refl _,Nat.le_refl _⟩
theorem packN_ok {cr:Int} {l:List DLane} (hu:∀ y,y ∈ l→W.wfLane y∧0≤y.Id∧y.Id≤4611686018427387903):∀ (n k:Nat) (s:List DLane×Int×List DFrame),n+k=l.length→s.1.length=l.length→(∀ y,y ∈ s.1→wfLane y)→(0≤s.2.1∧s.2.1≤cr)→okFs s.2.2→s.2.2.length≤12 →
    (packN cr l n k s).1.length=l.length∧(∀ y,y ∈ (packN cr l n k s).1→wfLane y)∧(0≤(packN cr l n k s).2.1∧(packN cr l n k s).2.1≤cr)∧okFs (packN cr l n k s).2.2∧(packN cr l n k s).2.2.length≤12
  | 0,k,s,_,h1,h2,h3,h4,h5=>⟨h1,h2,h3,h4,h5⟩
  | n+1,k,s,hk,h1,h2,h3,h4,h5=>by
    unfold packN
    split
    · exact ⟨h1,h2,h3,h4,h5⟩
    · rename_i hst
      split
      · rename_i hg
        obtain ⟨hul,hid⟩:=hu _ (getD_mem (show k<l.length by omega))
        obtain ⟨⟨d1,d2⟩,d3,d4,d5⟩:=pc_ok (s:=(l.getD k default).Out) (room:=rmF s.2.2) (credit:=cr - s.2.1) (id:=(l.getD k default).Id) hul.2.2.2 hid hg.1 hg.2
        have hwl:=W.wf_leLane _ hul
        refine packN_ok hu n (k+1) _ (by omega) (by dsimp only;rw [List.length_set];exact h1) (fun y hy=>?_) (by dsimp only;omega) (okFs_snoc h4 d4 d5) (by dsimp only;rw [List.length_append,List.length_singleton];omega)
        rcases List.mem_or_eq_of_mem_set hy with hy|hy
        · exact h2 y hy
        · subst hy;exact ⟨hwl.1,hwl.2.1,hwl.2.2.1,d3⟩
      · exact packN_ok hu n (k+1) s (by omega) h1 h2 h3 h4 h5
theorem paceSend_wf (p:DPace) (n:Int) (hw:wfPace p):wfPace (paceSendV p n).1:=by
  unfold paceSendV
  split
  · unfold wfPace I64;dsimp only;omega
  · rename_i h
    obtain ⟨ho,hl⟩:=paceArg_ok (p:=p) (l:=[n]) (by omega)
    have ha:=hl n (by simp)
    unfold inM at ha
    unfold paceOk at ho
    split
    · exact hw
    · unfold wfPace I64;dsimp only;omega
noncomputable def quietR (c:DConn) (l:List DFrame):DConn×Int×List DFrame×Int:=
  if l.length=0 then (c,0,[],0)
  else if (spQuiet c.Space).2.2=0 then ({ c with Space:=(spQuiet c.Space).1,Owes:=false,Queue:=if c.Closed=true then [] else c.Queue },(spQuiet c.Space).2.1,l,0)
  else (default,0,[],(spQuiet c.Space).2.2)
noncomputable def flPk (c:DConn):List DLane×Int×List DFrame:=packN c.Credit.Max c.Lanes c.Lanes.length 0 (c.Lanes,c.Credit.Used,(takeQ c.Queue (ackL c)).1)
def cnPk (c:DConn) (l:List DLane) (u:Int):DConn:={ c with Lanes:=l,Credit:=⟨c.Credit.Max,u⟩ }
def cnSn (c:DConn) (q:List DFrame) (p:DPace) (s:DSpace):DConn:={ c with Queue:=q,Pace:=p,Space:=s,Owes:=false }
noncomputable def flTry (c:DConn) (now:Int):DConn×Int×List DFrame×Int:=
  if (ackL c).length<(flPk c).2.2.length∧(paceSendV c.Pace (szF (flPk c).2.2)).2.1=true∧(spSend c.Space now (szF (flPk c).2.2) (flPk c).2.2).2.2=0 then
    (cnSn (cnPk c (flPk c).1 (flPk c).2.1) (takeQ c.Queue (ackL c)).2 (paceSendV c.Pace (szF (flPk c).2.2)).1 (spSend c.Space now (szF (flPk c).2.2) (flPk c).2.2).1,(spSend c.Space now (szF (flPk c).2.2) (flPk c).2.2).2.1,(flPk c).2.2,0)
  else quietR c (ackL c)
noncomputable def flR (c:DConn) (now:Int):DConn×Int×List DFrame×Int:=
  if cnFlt c=0 then (if 0≤now∧now≤1099511627776 then (if c.Closed=true then quietR c c.Queue else flTry c now) else (default,0,[],6)) else (default,0,[],9)
def encFl (r:DConn×Int×List DFrame×Int):V:=.tup [.agg (encConn r.1),.lit (.int .i64 r.2.1),.ro (r.2.2.1.map encFrame),.lit (.int .i64 r.2.2.2)]
end Go.Proofs.YtendheafcbickaaGreat
