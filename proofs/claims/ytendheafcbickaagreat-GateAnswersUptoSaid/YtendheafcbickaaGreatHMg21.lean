/-
  SEVERAL TEXTS IN ONE: each with its own comment.
-/
import Derived.Test.YtendheafcbickaaGreatHGo
import Derived.Test.YtendheafcbickaaGreatHMg20
import Derived.Test.YtendheafcbickaaGreatHMg07
import Derived.Test.YtendheafcbickaaGreatHZip
import Derived.Test.YtendheafcbickaaGreatHMg06
import Derived.Test.YtendheafcbickaaGreatProg
import Derived.Test.YtendheafcbickaaGreatHMg12
import Derived.Test.YtendheafcbickaaGreatHMg13
import Derived.Test.YtendheafcbickaaGreatHMg18

set_option linter.unusedVariables false
set_option linter.unusedSimpArgs false
set_option linter.unusedVariables false
namespace Go.Proofs.YtendheafcbickaaGreat
set_option maxRecDepth 100000
attribute [local irreducible] Run RunL QStep GStep Fn Less PL FnM
set_option maxHeartbeats 2000000 in
theorem sameSender_refl (a:DSender) (ha:a.Lost.length * 16≤140737488351232) (hb:a.Acked.length * 16≤140737488351232):Fn Tryz.prog 75 [.agg (encSender a),.agg (encSender a)] (.lit (.bool true)):=by
  have h1:=sameRanges_fn a.Lost a.Lost (by omega) (by omega)
  have h2:=sameRanges_fn a.Acked a.Acked (by omega) (by omega)
  have h3:=sameBytes_fn a.Data a.Data
  rw [yes_of rfl] at h1 h2 h3
  obtain ⟨data,f0,next,mx,lost,acked,en,ov⟩:=a
  dsimp only [encSender] at *
  cases f0 <;> cases en <;> cases ov
  all_goals refine fn_of_run (by kernel_rfl) Tryz.func75 rfl (by kernel_rfl) ?_
  all_goals (repeat' first|(refine s_call (h1) (h:=?_))|(refine p_call (h1) (h:=?_))|(refine s_call (h2) (h:=?_))|(refine p_call (h2) (h:=?_))|(refine s_call (h3) (h:=?_))|(refine p_call (h3) (h:=?_))|(refine go_ ?_;((repeat' first|exact True.intro|refine Two.mk ?_ ?_);all_goals intros))|fail "")
  all_goals first
    | exact ends_ (hr:=rfl)
    | skip
end Go.Proofs.YtendheafcbickaaGreat


set_option linter.unusedVariables false
set_option linter.unusedSimpArgs false
set_option linter.unusedVariables false
namespace Go.Proofs.YtendheafcbickaaGreat
set_option maxRecDepth 100000
attribute [local irreducible] Run RunL QStep GStep Fn Less PL FnM
set_option maxHeartbeats 1000000 in
theorem frames_fn (l:List DFrame) (hw:∀ y,y ∈ l→wfFrame y) (hl:l.length * 88≤140737488351232):Fn Tryz.prog 239 [.ro (l.map encFrame)] (.ro (l.map encFrame)):=by
  refine fn_of_run (by kernel_rfl) Tryz.func239 rfl (by kernel_rfl) ?_
  (repeat' first|(refine go_ ?_;((repeat' first|exact True.intro|refine Two.mk ?_ ?_);all_goals intros))|fail "")
  refine r_for (fun k:Nat=>⟨[(6,.ro (l.map encFrame)),(7,.lit (.int .i64 l.length)),(8,.lit (.int .i64 k)),(3,.own 0)],[(0,some (.row 111 7 ((l.take k).map encFrame)))],1,Tryz.f239.ntmps⟩)
    (fun k=>k≤l.length) (fun k=>l.length - k) 0 (Nat.zero_le _) ((less_own (n:=0) (t:=3) 111 7 rfl rfl rfl).trans less_to) ?_
  intro k hk
  by_cases hkn:k<l.length
  · have hf:=hw _ (getD_mem hkn)
    have hr:=hf.2.2.2.2.1
    have hd:=hf.2.2.2.2.2.2
    (repeat' first|(refine s_app (r:=(l.take (k+1)).map encFrame) ?_ ?_ ?_ ?_ (h:=?_);(exact Z65_);(exact Z47_);(exact Z12_);(exact Z22_))|(refine s_app0R (r:=(l.take (k+1)).map encFrame) ?_ ?_ ?_ ?_ (h:=?_);(exact Z65_);(exact Z47_);(exact Z12_);(exact Z22_))|(refine p_app (r:=(l.take (k+1)).map encFrame) ?_ ?_ ?_ ?_ (h:=?_);(exact Z65_);(exact Z47_);(exact Z12_);(exact Z22_))|(refine s_appro (r:=(l.getD k default).Ranges.map encRange) ?_ ?_ ?_ ?_ (h:=?_);(exact Z65_);(exact Z47_);(exact Z12_);(exact Z22_))|(refine p_appro (r:=(l.getD k default).Ranges.map encRange) ?_ ?_ ?_ ?_ (h:=?_);(exact Z65_);(exact Z47_);(exact Z12_);(exact Z22_))|(refine s_appro (r:=(l.getD k default).Data.map encB) ?_ ?_ ?_ ?_ (h:=?_);(exact Z65_);(exact Z47_);(exact Z12_);(exact Z22_))|(refine p_appro (r:=(l.getD k default).Data.map encB) ?_ ?_ ?_ ?_ (h:=?_);(exact Z65_);(exact Z47_);(exact Z12_);(exact Z22_))|(refine go_ ?_;((repeat' first|exact True.intro|refine Two.mk ?_ ?_);all_goals intros))|fail "")
    all_goals (refine ⟨k+1,?_,?_,?_⟩;rotate_left 2;(exact lessA_);(exact Z69_);(exact Z67_))
  · (repeat' first|(refine go_ ?_;((repeat' first|exact True.intro|refine Two.mk ?_ ?_);all_goals intros))|fail "")
    all_goals (refine ends_ (hr:=?_);rw [List.take_of_length_le (by omega)])
set_option maxHeartbeats 1000000 in
theorem fresh_fnm (s:DSpace) (hw:wfSpace s) :
    FnM Tryz.prog 127 [.agg (encSpace s)] [] 0 (.agg [.lit (.int .i64 s.Next),.own 0,.lit (.int .i64 s.Top),.own 1,.own 2]) [(0,some (.row 198 4 (s.Sent.map encParcel))),(1,some (.row 146 2 (s.Heard.map encRange))),(2,some (.row 3 1 (s.Skip.map encI)))] 3:=by
  have hl:=hw.2.1
  have hl2:=hw.2.2.2.2.1
  have hl3:=hw.2.2.2.2.2.2.1
  refine fnm_of_run (by kernel_rfl) Tryz.func127 rfl (by kernel_rfl) (by rfl) ?_
  (repeat' first|(refine go_ ?_;((repeat' first|exact True.intro|refine Two.mk ?_ ?_);all_goals intros))|fail "")
  refine r_for (fun k:Nat=>⟨[(1,.ptr 0 0 0 0),(2,.ptr 1 0 0 0),(7,.ro (s.Sent.map encParcel)),(8,.lit (.int .i64 s.Sent.length)),(9,.lit (.int .i64 k)),(3,.own 2)],[(0,some (.box 43 (encSpace s))),(1,some (.box 43 [.lit (.int .i64 0),.lit (.slice none 0 0),.lit (.int .i64 0),.lit (.slice none 0 0),.lit (.slice none 0 0)])),(2,some (.row 198 4 ((s.Sent.take k).map encParcel)))],3,Tryz.f127.ntmps⟩)
    (fun k=>k≤s.Sent.length) (fun k=>s.Sent.length - k) 0 (Nat.zero_le _) ((less_own (n:=2) (t:=3) 198 4 rfl rfl rfl).trans less_to) ?_
  intro k hk
  by_cases hkn:k<s.Sent.length
  · have hf:=hw.2.2.1 _ (getD_mem hkn)
    have h1:=frames_fn (s.Sent.getD k default).Frames hf.2.2.2.2 hf.2.2.2.1
    (repeat' first|(refine s_call (h1) (h:=?_))|(refine p_call (h1) (h:=?_))|(refine s_app (r:=(s.Sent.take (k+1)).map encParcel) ?_ ?_ ?_ ?_ (h:=?_);(exact Z65_);(exact Z47_);(exact Z12_);(exact Z22_))|(refine s_app0R (r:=(s.Sent.take (k+1)).map encParcel) ?_ ?_ ?_ ?_ (h:=?_);(exact Z65_);(exact Z47_);(exact Z12_);(exact Z22_))|(refine p_app (r:=(s.Sent.take (k+1)).map encParcel) ?_ ?_ ?_ ?_ (h:=?_);(exact Z65_);(exact Z47_);(exact Z12_);(exact Z22_))|(refine go_ ?_;((repeat' first|exact True.intro|refine Two.mk ?_ ?_);all_goals intros))|fail "")
    all_goals (refine ⟨k+1,?_,?_,?_⟩;rotate_left 2;(exact lessA_);(exact Z69_);(exact Z67_))
  · have hkl:k=s.Sent.length:=by omega
    subst hkl
    rw [List.take_length]
    (repeat' first|(refine s_app (r:=s.Heard.map encRange) ?_ ?_ ?_ ?_ (h:=?_);(exact Z65_);(exact Z47_);(exact Z12_);(exact Z22_))|(refine s_app0R (r:=s.Heard.map encRange) ?_ ?_ ?_ ?_ (h:=?_);(exact Z65_);(exact Z47_);(exact Z12_);(exact Z22_))|(refine p_app (r:=s.Heard.map encRange) ?_ ?_ ?_ ?_ (h:=?_);(exact Z65_);(exact Z47_);(exact Z12_);(exact Z22_))|(refine s_app (r:=s.Skip.map encI) ?_ ?_ ?_ ?_ (h:=?_);(exact Z65_);(exact Z47_);(exact Z12_);(exact Z22_))|(refine s_app0R (r:=s.Skip.map encI) ?_ ?_ ?_ ?_ (h:=?_);(exact Z65_);(exact Z47_);(exact Z12_);(exact Z22_))|(refine p_app (r:=s.Skip.map encI) ?_ ?_ ?_ ?_ (h:=?_);(exact Z65_);(exact Z47_);(exact Z12_);(exact Z22_))|(refine go_ ?_;((repeat' first|exact True.intro|refine Two.mk ?_ ?_);all_goals intros))|fail "")
    all_goals (exact endmA_)
end Go.Proofs.YtendheafcbickaaGreat


set_option linter.unusedVariables false
set_option linter.unusedSimpArgs false
set_option linter.unusedVariables false
namespace Go.Proofs.YtendheafcbickaaGreat
set_option maxRecDepth 100000
attribute [local irreducible] Run RunL QStep GStep Fn Less PL FnM
def late (now age:Int) (p:DParcel):Bool:=decide (age≤now - p.Time)
def ovBad (now age:Int):Prop:=¬ (0≤now∧now≤1099511627776∧0≤age∧age≤1099511627776)
instance (now age:Int):Decidable (ovBad now age):=inferInstanceAs (Decidable (¬ _))
noncomputable def spOver (s:DSpace) (now age:Int):DSpace×List DParcel×Int:=
  if spFlt s≠0 then (⟨0,[],0,[],[]⟩,[],spFlt s) else if ovBad now age then (⟨0,[],0,[],[]⟩,[],6)
  else (⟨s.Next,s.Sent.filter (fun p=>!late now age p),s.Top,s.Heard,s.Skip⟩,s.Sent.filter (late now age),0)
end Go.Proofs.YtendheafcbickaaGreat


set_option linter.unusedVariables false
set_option linter.unusedSimpArgs false
set_option linter.unusedVariables false
namespace Go.Proofs.YtendheafcbickaaGreat
set_option maxRecDepth 100000
attribute [local irreducible] Run RunL QStep GStep Fn Less PL FnM
set_option maxHeartbeats 1000000 in
theorem senderFresh_fnm (s:DSender) (hw:wfSender s) :
    FnM Tryz.prog 205 [.agg (encSender s)] [] 0 (.agg [.own 0,.lit (.bool s.Fin),.lit (.int .i64 s.Next),.lit (.int .i64 s.Max),.own 1,.own 2,.lit (.bool s.Ended),.lit (.bool s.Over)]) [(0,some (.row 5 1 (s.Data.map encB))),(1,some (.row 146 2 (s.Lost.map encRange))),(2,some (.row 146 2 (s.Acked.map encRange)))] 3:=by
  have hl:=hw.1
  have hl2:=hw.2.2.2.1
  have hl3:=hw.2.2.2.2.2.1
  refine fnm_of_run (by kernel_rfl) Tryz.func205 rfl (by kernel_rfl) (by rfl) ?_
  (repeat' first|(refine s_app (r:=s.Data.map encB) ?_ ?_ ?_ ?_ (h:=?_);(exact Z65_);(exact Z47_);(exact Z12_);(exact Z22_))|(refine s_app0R (r:=s.Data.map encB) ?_ ?_ ?_ ?_ (h:=?_);(exact Z65_);(exact Z47_);(exact Z12_);(exact Z22_))|(refine p_app (r:=s.Data.map encB) ?_ ?_ ?_ ?_ (h:=?_);(exact Z65_);(exact Z47_);(exact Z12_);(exact Z22_))|(refine s_app (r:=s.Lost.map encRange) ?_ ?_ ?_ ?_ (h:=?_);(exact Z65_);(exact Z47_);(exact Z12_);(exact Z22_))|(refine s_app0R (r:=s.Lost.map encRange) ?_ ?_ ?_ ?_ (h:=?_);(exact Z65_);(exact Z47_);(exact Z12_);(exact Z22_))|(refine p_app (r:=s.Lost.map encRange) ?_ ?_ ?_ ?_ (h:=?_);(exact Z65_);(exact Z47_);(exact Z12_);(exact Z22_))|(refine s_app (r:=s.Acked.map encRange) ?_ ?_ ?_ ?_ (h:=?_);(exact Z65_);(exact Z47_);(exact Z12_);(exact Z22_))|(refine s_app0R (r:=s.Acked.map encRange) ?_ ?_ ?_ ?_ (h:=?_);(exact Z65_);(exact Z47_);(exact Z12_);(exact Z22_))|(refine p_app (r:=s.Acked.map encRange) ?_ ?_ ?_ ?_ (h:=?_);(exact Z65_);(exact Z47_);(exact Z12_);(exact Z22_))|(refine go_ ?_;((repeat' first|exact True.intro|refine Two.mk ?_ ?_);all_goals intros))|fail "")
  all_goals first
    | (exact endmA_)
    | skip
noncomputable def wrR (s:DSender) (b:List UInt8) (fin:Bool):DSender×Int:=
  if sndFlt s≠0 then (sndZ,sndFlt s) else if s.Fin=true then (sndZ,17) else if 600<s.Data.length+b.length then (sndZ,8) else ({ s with Data:=s.Data++b,Fin:=fin },0)
set_option maxHeartbeats 4000000 in
theorem senderWrite_fn (s:DSender) (b:List UInt8) (fin:Bool) (hw:wfSender s) (hb:b.length≤1000000000000000):Fn Tryz.prog 100 [.agg (encSender s),.ro (b.map encB),.lit (.bool fin)] (.tup [.agg (encSender (wrR s b fin).1),.lit (.int .i64 (wrR s b fin).2)]):=by
  have h1:=senderCheck_fn s hw
  have h2:=senderFresh_fnm s hw
  have w1:=hw.1
  clear hw
  unfold wrR
  rcases sndFlt_cases s with ⟨h0,hok⟩ | ⟨h0,hbad⟩
  · rw [h0] at h1
    rw [if_neg (by omega)]
    have hd:s.Data.length≤600:=hok.1.1.1.1
    clear hok h0
    obtain ⟨data,f0,next,mx,lost,acked,en,ov⟩:=s
    dsimp only [encSender] at *
    cases f0
    · rw [if_neg (by decide)]
      by_cases hl:600<data.length+b.length
      · rw [if_pos hl]
        refine fn_of_run (by kernel_rfl) Tryz.func100 rfl (by kernel_rfl) ?_
        (repeat' first|(refine s_call (h1) (h:=?_))|(refine p_call (h1) (h:=?_))|(refine go_ ?_;((repeat' first|exact True.intro|refine Two.mk ?_ ?_);all_goals intros))|fail "")
        all_goals first
          | (exact endwA_)
          | skip
      · rw [if_neg hl]
        refine fn_of_run (by kernel_rfl) Tryz.func100 rfl (by kernel_rfl) ?_
        (repeat' first|(refine s_call (h1) (h:=?_))|(refine p_call (h1) (h:=?_))|(refine s_callM [] (h2) (h:=?_))|refine s_callV [] (h2) (h:=?_)|(refine s_appro (r:=(data++b).map encB) ?_ ?_ ?_ ?_ (h:=?_);(exact Z61_);(exact Z47_);(exact Z12_);(exact Z22_))|(refine p_appro (r:=(data++b).map encB) ?_ ?_ ?_ ?_ (h:=?_);(exact Z61_);(exact Z47_);(exact Z12_);(exact Z22_))|(refine go_ ?_;((repeat' first|exact True.intro|refine Two.mk ?_ ?_);all_goals intros))|fail "")
        all_goals first
          | (exact endwA_)
          | skip
    · rw [if_pos rfl]
      refine fn_of_run (by kernel_rfl) Tryz.func100 rfl (by kernel_rfl) ?_
      (repeat' first|(refine s_call (h1) (h:=?_))|(refine p_call (h1) (h:=?_))|(refine go_ ?_;((repeat' first|exact True.intro|refine Two.mk ?_ ?_);all_goals intros))|fail "")
      all_goals first
        | (exact endwA_)
        | skip
  · rw [h0] at h1 ⊢
    rw [if_pos (by decide)]
    refine fn_of_run (by kernel_rfl) Tryz.func100 rfl (by kernel_rfl) ?_
    (repeat' first|(refine s_call (h1) (h:=?_))|(refine p_call (h1) (h:=?_))|(refine go_ ?_;((repeat' first|exact True.intro|refine Two.mk ?_ ?_);all_goals intros))|fail "")
    all_goals first
      | (exact endwA_)
      | skip
end Go.Proofs.YtendheafcbickaaGreat


set_option linter.unusedVariables false
set_option linter.unusedSimpArgs false
set_option linter.unusedVariables false
namespace Go.Proofs.YtendheafcbickaaGreat
set_option maxRecDepth 100000
attribute [local irreducible] Run RunL QStep GStep Fn Less PL FnM
noncomputable def grR (s:DSender) (n:Int):DSender×Int:=
  if sndFlt s≠0 then (sndZ,sndFlt s) else if 0≤n∧n≤4611686018427387903 then ({ s with Max:=max s.Max n },0) else (sndZ,6)
set_option maxHeartbeats 4000000 in
theorem senderWritten_fn (s:DSender) (b:List UInt8) (fin:Bool) (hw:U.wfSender s) (hb:b.length≤4294967296):Fn Tryz.prog 106 [.agg (encSender s),.ro (b.map encB),.lit (.bool fin)] (.tup [.agg (encSender (wrR s b fin).1),.lit (.int .i64 (wrR s b fin).2)]):=by
  have h1:=senderFault_fn s hw
  have w1:=hw.1
  clear hw
  unfold wrR
  rcases sndFlt_cases s with ⟨h0,hok⟩ | ⟨h0,hbad⟩
  · rw [h0] at h1
    rw [if_neg (by omega)]
    have hd:s.Data.length≤600:=hok.1.1.1.1
    clear hok h0
    obtain ⟨data,f0,next,mx,lost,acked,en,ov⟩:=s
    dsimp only [encSender] at *
    cases f0
    · rw [if_neg (by decide)]
      by_cases hl:600<data.length+b.length
      · rw [if_pos hl]
        refine fn_of_run (by kernel_rfl) Tryz.func106 rfl (by kernel_rfl) ?_
        (repeat' first|(refine s_call (h1) (h:=?_))|(refine p_call (h1) (h:=?_))|(refine go_ ?_;((repeat' first|exact True.intro|refine Two.mk ?_ ?_);all_goals intros))|fail "")
        all_goals first
          | (exact endwA_)
          | skip
      · rw [if_neg hl]
        refine fn_of_run (by kernel_rfl) Tryz.func106 rfl (by kernel_rfl) ?_
        (repeat' first|(refine s_call (h1) (h:=?_))|(refine p_call (h1) (h:=?_))|(refine go_ ?_;((repeat' first|exact True.intro|refine Two.mk ?_ ?_);all_goals intros))|fail "")
        all_goals first
          | (exact endwA_)
          | skip
    · rw [if_pos rfl]
      refine fn_of_run (by kernel_rfl) Tryz.func106 rfl (by kernel_rfl) ?_
      (repeat' first|(refine s_call (h1) (h:=?_))|(refine p_call (h1) (h:=?_))|(refine go_ ?_;((repeat' first|exact True.intro|refine Two.mk ?_ ?_);all_goals intros))|fail "")
      all_goals first
        | (exact endwA_)
        | skip
  · rw [h0] at h1 ⊢
    rw [if_pos (by decide)]
    refine fn_of_run (by kernel_rfl) Tryz.func106 rfl (by kernel_rfl) ?_
    (repeat' first|(refine s_call (h1) (h:=?_))|(refine p_call (h1) (h:=?_))|(refine go_ ?_;((repeat' first|exact True.intro|refine Two.mk ?_ ?_);all_goals intros))|fail "")
    all_goals first
      | (exact endwA_)
      | skip
end Go.Proofs.YtendheafcbickaaGreat


set_option linter.unusedVariables false
set_option linter.unusedSimpArgs false
set_option linter.unusedVariables false
namespace Go.Proofs.YtendheafcbickaaGreat
set_option maxRecDepth 100000
attribute [local irreducible] Run RunL QStep GStep Fn Less PL FnM
def cnSet (c:DConn) (i:Nat) (l:DLane):DConn:={ c with Lanes:=c.Lanes.set i l }
noncomputable def cnWriteR (c:DConn) (id:Int) (b:List UInt8) (fin:Bool):DConn×Int:=
  if cnFlt c=0 then (if c.Closed=true then (default,17) else if lnIx c.Lanes id<c.Lanes.length then
    (if (wrR (c.Lanes.getD (lnIx c.Lanes id) default).Out b fin).2=0 then (cnSet c (lnIx c.Lanes id) { c.Lanes.getD (lnIx c.Lanes id) default with Out:=(wrR (c.Lanes.getD (lnIx c.Lanes id) default).Out b fin).1 },0) else (default,(wrR (c.Lanes.getD (lnIx c.Lanes id) default).Out b fin).2)) else (default,5)) else (default,9)
set_option maxHeartbeats 4000000 in
theorem laneAt_fn (c:DConn) (id:Int) (hl:c.Lanes.length≤1000000):Fn Tryz.prog 105 [.agg (encConn c),.lit (.int .i64 id)] (.lit (.int .i64 (if lnIx c.Lanes id<c.Lanes.length then (lnIx c.Lanes id:Int) else -1))):=by
  have hle:=lnIx_le c.Lanes id
  generalize hP:(if lnIx c.Lanes id<c.Lanes.length then (lnIx c.Lanes id:Int) else -1)=R
  refine fn_of_run (by kernel_rfl) Tryz.func105 rfl (by kernel_rfl) ?_
  (repeat' first|(refine go_ ?_;((repeat' first|exact True.intro|refine Two.mk ?_ ?_);all_goals intros))|fail "")
  refine r_for (fun k:Nat=>⟨[(1,.lit (.int .i64 id)),(8,.ro (c.Lanes.map encLane)),(9,.lit (.int .i64 c.Lanes.length)),(10,.lit (.int .i64 k))],[],0,Tryz.f105.ntmps⟩)
    (fun k=>k≤lnIx c.Lanes id) (fun k=>c.Lanes.length - k) 0 (Nat.zero_le _) (by (exact lessA_)) ?_
  intro k hk
  by_cases hkn:k<c.Lanes.length
  · by_cases he:(c.Lanes.getD k default).Id=id
    · have hx:=lnIx_of hkn hk he
      rw [hx,if_pos hkn] at hP
      subst hP
      (repeat' first|(refine go_ ?_;((repeat' first|exact True.intro|refine Two.mk ?_ ?_);all_goals intros))|fail "")
      all_goals first
        | (exact endwA_)
        | skip
    · have hx:=lnIx_step hkn hk he
      (repeat' first|(refine go_ ?_;((repeat' first|exact True.intro|refine Two.mk ?_ ?_);all_goals intros))|fail "")
      all_goals first
        | (refine ⟨k+1,?_,?_,?_⟩;rotate_left 2;(exact lessA_);(exact Z69_);(focus (exact hx)))
        | skip
  · have hkl:k=c.Lanes.length:=by omega
    rw [if_neg (by omega)] at hP
    subst hP
    (repeat' first|(refine go_ ?_;((repeat' first|exact True.intro|refine Two.mk ?_ ?_);all_goals intros))|fail "")
    all_goals first
      | (exact endwA_)
      | skip
set_option maxHeartbeats 4000000 in
theorem setLane_fn (c:DConn) (i:Nat) (l:DLane) (hl:c.Lanes.length≤1000000) (hi:i<c.Lanes.length):Fn Tryz.prog 107 [.agg (encConn c),.lit (.int .i64 i),.agg (encLane l)] (.agg (encConn (cnSet c i l))):=by
  unfold cnSet
  generalize hZ:encConn { c with Lanes:=c.Lanes.set i l }=Z
  unfold encConn at hZ
  dsimp only at hZ
  subst hZ
  refine fn_of_run (by kernel_rfl) Tryz.func107 rfl (by kernel_rfl) ?_
  (repeat' first|(refine s_app (r:=c.Lanes.map encLane) ?_ ?_ ?_ ?_ (h:=?_);(exact Z65_);(exact Z47_);(exact Z12_);(exact Z22_))|(refine s_app0R (r:=c.Lanes.map encLane) ?_ ?_ ?_ ?_ (h:=?_);(exact Z65_);(exact Z47_);(exact Z12_);(exact Z22_))|(refine p_app (r:=c.Lanes.map encLane) ?_ ?_ ?_ ?_ (h:=?_);(exact Z65_);(exact Z47_);(exact Z12_);(exact Z22_))|(refine s_set (r:=(c.Lanes.set i l).map encLane) ?_ ?_ (h:=?_);(exact Z13_);(focus ((rw [eAt_map encLane hi,List.map_set];rfl))))|(refine p_set (r:=(c.Lanes.set i l).map encLane) ?_ ?_ (h:=?_);(exact Z13_);(focus ((rw [eAt_map encLane hi,List.map_set];rfl))))|(refine go_ ?_;((repeat' first|exact True.intro|refine Two.mk ?_ ?_);all_goals intros))|fail "")
  all_goals first
    | (exact endwA_)
    | skip
end Go.Proofs.YtendheafcbickaaGreat


set_option linter.unusedVariables false
set_option linter.unusedSimpArgs false
set_option linter.unusedVariables false
namespace Go.Proofs.YtendheafcbickaaGreat
set_option maxRecDepth 100000
def clsF (e:Int):DFrame:=⟨28,0,0,false,e,[],[]⟩
def cnShut (c:DConn) (e:Int):DConn:={ c with Closed:=true,Code:=e,Queue:=[clsF e],Lanes:=[],Owes:=false }
def hasQ (q:List DFrame) (f:DFrame):Prop:=∃ i,i<q.length∧(q.getD i default).Kind=f.Kind∧(q.getD i default).Id=f.Id
def lnOf (c:DConn) (id:Int):DLane:=c.Lanes.getD (lnIx c.Lanes id) default
def wOff (f:DFrame) (n:Int):DFrame:=⟨f.Kind,f.Id,n,f.Fin,f.Code,f.Ranges,f.Data⟩
def agF (c:DConn) (f:DFrame):DFrame:=if f.Kind=16 then wOff f c.Flow.Max else if f.Kind=18 then wOff f c.Grant else if f.Kind=17 then wOff f (lnOf c f.Id).In.Window else f
noncomputable def againR (c:DConn) (f:DFrame):List DFrame×Int:=
  if yes (hasQ c.Queue f)=true then (c.Queue,0)
  else if f.Kind=17∧(lnIx c.Lanes f.Id=c.Lanes.length∨(lnOf c f.Id).Over=true) then (c.Queue,0)
  else qTell c.Queue (agF c f)
def kAg (k:Int):Prop:=k=4∨k=16∨k=17∨k=18∨k=6∨k=7∨k=30
instance (k:Int):Decidable (kAg k):=inferInstanceAs (Decidable (_∨_))
noncomputable def lossR (c:DConn) (f:DFrame):List DLane×List DFrame×Int:=
  if f.Kind=8 then
    (if lnIx c.Lanes f.Id<c.Lanes.length then
      (if (lostR (lnOf c f.Id).Out f.Off f.Data.length f.Fin).2=0 then (c.Lanes.set (lnIx c.Lanes f.Id) { lnOf c f.Id with Out:=(lostR (lnOf c f.Id).Out f.Off f.Data.length f.Fin).1 },c.Queue,0) else (c.Lanes,c.Queue,(lostR (lnOf c f.Id).Out f.Off f.Data.length f.Fin).2))
     else (c.Lanes,c.Queue,0))
  else if kAg f.Kind then (c.Lanes,(againR c f).1,(againR c f).2)
  else (c.Lanes,c.Queue,0)
def cnLQ (c:DConn) (l:List DLane) (q:List DFrame):DConn:={ c with Lanes:=l,Queue:=q }
def cnP (c:DConn) (p:DPace):DConn:={ c with Pace:=p }
noncomputable def lossAll (c:DConn):List DFrame→DConn×Int
  | []=>(c,0)
  | f :: l=>if (lossR c f).2.2=0 then lossAll (cnLQ c (lossR c f).1 (lossR c f).2.1) l else (c,(lossR c f).2.2)
def pcLs (c:DConn) (p:DParcel) (now:Int):DPace:=(paceLostV c.Pace (min p.Size c.Pace.Flying) p.Time now).1
noncomputable def lostAll (now:Int) (c:DConn):List DParcel→DConn×Int
  | []=>(c,0)
  | p :: l=>if (lossAll (cnP c (pcLs c p now)) p.Frames).2=0 then lostAll now (lossAll (cnP c (pcLs c p now)) p.Frames).1 l else lossAll (cnP c (pcLs c p now)) p.Frames
def cnSp (c:DConn) (s:DSpace):DConn:={ c with Space:=s }
noncomputable def tickR (c:DConn) (now:Int):DConn×Int:=
  if cnFlt c=0 then (if 0≤now∧now≤1099511627776 then (if c.Closed=true then (c,0)
    else if 60≤now - c.Last then (cnQ (cnShut c 16) [],0)
    else if (lostAll now (cnSp c (spOver c.Space now 8).1) (spOver c.Space now 8).2.1).2=0 then ((lostAll now (cnSp c (spOver c.Space now 8).1) (spOver c.Space now 8).2.1).1,0)
    else (cnShut (lostAll now (cnSp c (spOver c.Space now 8).1) (spOver c.Space now 8).2.1).1 (lostAll now (cnSp c (spOver c.Space now 8).1) (spOver c.Space now 8).2.1).2,0)) else (default,6)) else (default,9)
theorem rSet_few:∀ {l:List DRange} {a m:Int},rSet a l→(∀ x ∈ l,x.Hi<m)→a<m→2 * (l.length:Int)≤m - a
  | [],a,m,_,_,ha=>by simp;omega
  | r :: l,a,m,h,hm,ha=>by
    have h1:=hm r List.mem_cons_self
    have hg:=h.1
    unfold rGood at hg
    have:=rSet_few (a:=r.Hi) h.2.2 (fun x hx=>hm x (List.mem_cons_of_mem _ hx)) h1
    have h2:=h.2.1
    rw [List.length_cons];omega
def okLs (l:List DLane):Prop:=∀ y ∈ l,W.wfLane y
end Go.Proofs.YtendheafcbickaaGreat


set_option linter.unusedVariables false
set_option linter.unusedSimpArgs false
set_option linter.unusedVariables false
namespace Go.Proofs.YtendheafcbickaaGreat
set_option maxRecDepth 100000
attribute [local irreducible] Run RunL QStep GStep Fn Less PL FnM
def encLr (u:Int→Value) (x:DLane):List V:=[.lit (.int .i64 x.Id),.lit (.int .i64 x.In.Done),.ro (x.In.Held.map encPiece),.lit (.int .i64 x.In.Final),.lit (.int .i64 x.In.Window),.lit (u x.Id),.lit (.bool x.Over),.lit (.bool x.Cut),.ro (x.Out.Data.map encB),.lit (.bool x.Out.Fin),.lit (.int .i64 x.Out.Next),.lit (.int .i64 x.Out.Max),.ro (x.Out.Lost.map encRange),.ro (x.Out.Acked.map encRange),.lit (.bool x.Out.Ended),.lit (.bool x.Out.Over)]
end Go.Proofs.YtendheafcbickaaGreat
