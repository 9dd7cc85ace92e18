/-
  SEVERAL TEXTS IN ONE: each with its own comment.
-/
import Derived.Test.YtendheafcbickaaGreatHZip
import Derived.Test.YtendheafcbickaaGreatHGo
import Derived.Test.YtendheafcbickaaGreatHMg21
import Derived.Test.YtendheafcbickaaGreatHMg41
import Derived.Test.YtendheafcbickaaGreatHCnFr
import Derived.Test.YtendheafcbickaaGreatHFlC
import Derived.Test.YtendheafcbickaaGreatHMg34
import Derived.Test.YtendheafcbickaaGreatHMg20
import Derived.Test.YtendheafcbickaaGreatHMg27
import Derived.Test.YtendheafcbickaaGreatHMg18
import Derived.Test.YtendheafcbickaaGreatHMg03

set_option linter.unusedVariables false
set_option linter.unusedSimpArgs false
set_option linter.unusedVariables false
namespace Go.Proofs.YtendheafcbickaaGreat
set_option maxRecDepth 100000
attribute [local irreducible] Run RunL QStep GStep Fn Less PL FnM
set_option maxHeartbeats 4000000 in
theorem connWritten_fn (c:DConn) (id:Int) (b:List UInt8) (fin:Bool) (hu:W.wfConn c) (hb:b.length≤1048576):Fn Tryz.prog 44 [.agg (encConn c),.lit (.int .i64 id),.ro (b.map encB),.lit (.bool fin)] (encCnE (cnWriteR c id b fin)):=by
  have h1:=connFault_fn c hu
  have hll:c.Lanes.length≤1000000000:=by have:=hu.2.2.2.2.2.2.2.1;omega
  have hlw:=hu.2.2.2.2.2.2.2.2.1
  clear hu
  unfold cnWriteR encCnE
  rcases cnFlt_cases c with ⟨h0,hok⟩ | ⟨h0,hok⟩
  · rw [h0] at h1 ⊢
    rw [if_pos rfl]
    obtain ⟨r1,r2,r3,r4⟩:=cn_room hok
    have h2:=laneAt_fn c id (by omega)
    clear hok h0
    by_cases hx:lnIx c.Lanes id<c.Lanes.length
    · rw [if_pos hx] at h2 ⊢
      have hul:=hlw _ (getD_mem hx)
      have h3:=senderWritten_fn (c.Lanes.getD (lnIx c.Lanes id) default).Out b fin hul.2.2.2 (by omega)
      have h4:=fun s=>setLane_fn c (lnIx c.Lanes id) { c.Lanes.getD (lnIx c.Lanes id) default with Out:=s } (by omega) hx
      clear hul hlw
      generalize lnIx c.Lanes id=k at *
      generalize wrR (c.Lanes.getD k default).Out b fin=W at *
      obtain ⟨S,e⟩:=W
      have h4:=h4 S
      generalize hC:cnSet c k { c.Lanes.getD k default with Out:=S }=C at *
      clear hC
      obtain ⟨b0,space,pace,flow,credit,ids,grant,opened,lanes,b1,queue,last,resets,b2,code⟩:=c
      dsimp only at *
      cases b2
      all_goals
        by_cases he:e=0
        all_goals
          first|rw [if_pos rfl]|rw [if_neg (by decide)]
          first|rw [if_pos he]|rw [if_neg he]|skip
          refine fn_of_run (by kernel_rfl) Tryz.func44 rfl (by kernel_rfl) ?_
          (repeat' first|(refine s_call (h1) (h:=?_))|(refine p_call (h1) (h:=?_))|(refine s_call (h2) (h:=?_))|(refine p_call (h2) (h:=?_))|(refine s_call (h3) (h:=?_))|(refine p_call (h3) (h:=?_))|(refine s_call (h4) (h:=?_))|(refine p_call (h4) (h:=?_))|(refine go_ ?_;((repeat' first|exact True.intro|refine Two.mk ?_ ?_);all_goals intros))|fail "")
          all_goals (try dsimp only at *)
          all_goals first
            | (exact endwA_)
            | (subst he;(exact endwA_))
            | (exfalso;omega)
            | skip
    · rw [if_neg hx] at h2 ⊢
      clear hlw
      obtain ⟨b0,space,pace,flow,credit,ids,grant,opened,lanes,b1,queue,last,resets,b2,code⟩:=c
      dsimp only at *
      cases b2
      all_goals
        first|rw [if_pos rfl]|rw [if_neg (by decide)]
        refine fn_of_run (by kernel_rfl) Tryz.func44 rfl (by kernel_rfl) ?_
        (repeat' first|(refine s_call (h1) (h:=?_))|(refine p_call (h1) (h:=?_))|(refine s_call (h2) (h:=?_))|(refine p_call (h2) (h:=?_))|(refine go_ ?_;((repeat' first|exact True.intro|refine Two.mk ?_ ?_);all_goals intros))|fail "")
        all_goals (try dsimp only at *)
        all_goals first
          | (exact endwA_)
          | (exfalso;omega)
          | skip
  · rw [h0] at h1 ⊢
    rw [if_neg (by decide)]
    refine fn_of_run (by kernel_rfl) Tryz.func44 rfl (by kernel_rfl) ?_
    (repeat' first|(refine s_call (h1) (h:=?_))|(refine p_call (h1) (h:=?_))|(refine go_ ?_;((repeat' first|exact True.intro|refine Two.mk ?_ ?_);all_goals intros))|fail "")
    all_goals first
      | (exact endwA_)
      | skip
set_option maxHeartbeats 4000000 in
theorem connWrite_fn (c:DConn) (id:Int) (b:List UInt8) (fin:Bool) (hw:wfConn c) (hb:b.length≤1048576):Fn Tryz.prog 39 [.agg (encConn c),.lit (.int .i64 id),.ro (b.map encB),.lit (.bool fin)] (encCnE (cnWriteR c id b fin)):=by
  have h1:=connCheck_fn c hw
  have hF:=cfresh_fnm c hw
  have hlw:=hw.2.2.2.2.2.2.2.2.1
  clear hw
  unfold cnWriteR encCnE
  rcases cnFlt_cases c with ⟨h0,hok⟩ | ⟨h0,hok⟩
  · rw [h0] at h1 ⊢
    rw [if_pos rfl]
    obtain ⟨r1,r2,r3,r4⟩:=cn_room hok
    have h2:=endLane_fnm c id (by omega)
    unfold lnP connC at h2
    unfold connC at hF
    clear hok h0
    by_cases hx:lnIx c.Lanes id<c.Lanes.length
    · rw [if_pos hx] at h2 ⊢
      have hul:=hlw _ (getD_mem hx)
      have h3:=senderWrite_fn (c.Lanes.getD (lnIx c.Lanes id) default).Out b fin hul.2.2.2 (by omega)
      have hin:lnIx c.Lanes id<(c.Lanes.map encLane).length:=by rw [List.length_map];exact hx
      have hat:=eAt_map encLane hx
      clear hul hlw
      generalize lnIx c.Lanes id=k at *
      generalize wrR (c.Lanes.getD k default).Out b fin=W at *
      obtain ⟨S,e⟩:=W
      obtain ⟨b0,space,pace,flow,credit,ids,grant,opened,lanes,b1,queue,last,resets,b2,code⟩:=c
      unfold cnSet
      dsimp only at *
      have hst:(lanes.map encLane).set k (setAt 8 (encSender S) (eAt (lanes.map encLane) k))=(lanes.set k { lanes.getD k default with Out:=S }).map encLane:=by
        rw [hat,List.map_set];rfl
      cases b2
      all_goals
        by_cases he:e=0
        all_goals
          first|rw [if_pos rfl]|rw [if_neg (by decide)]
          first|rw [if_pos he]|rw [if_neg he]|skip
          refine fn_of_run (by kernel_rfl) Tryz.func39 rfl (by kernel_rfl) ?_
          (repeat' first|(refine s_call (h1) (h:=?_))|(refine p_call (h1) (h:=?_))|(refine s_callM [] (hF) (h:=?_))|(refine s_callM [4,2,3] (h2) (h:=?_))|(refine p_callM [4,2,3] (h2) (h:=?_))|(refine s_call (h3) (h:=?_))|(refine p_call (h3) (h:=?_))|refine s_i (hq:=q_nil_eql rfl rfl rfl rfl) (h:=?_)|refine s_i (hq:=q_load_agg rfl rfl rfl rfl (reads_row rfl hin rfl hat) (Nat.le_of_ble_eq_true rfl)) (h:=?_)|(refine s_set (r:=(lanes.set k { lanes.getD k default with Out:=S }).map encLane) ?_ ?_ (h:=?_);(exact Z13_);(focus ((exact hst))))|(refine p_set (r:=(lanes.set k { lanes.getD k default with Out:=S }).map encLane) ?_ ?_ (h:=?_);(exact Z13_);(focus ((exact hst))))|(refine goI_ ?_;((repeat' first|exact True.intro|refine Two.mk ?_ ?_);all_goals intros))|refine s_i (h:=?_)|refine s_i (hq:=q_index_ro rfl rfl rfl (by first|exact lit0|exact lit1|exact lit2|exact lit3|rfl) (by simp only [List.length_cons,List.length_nil];omega) rfl rfl rfl rfl) (h:=?_)|refine p_i (h:=?_)|refine p_ih (h:=?_)|refine s_lit (h:=?_)|refine p_lit (h:=?_)|refine p_lit0 (h:=?_)|refine s_lit0 (h:=?_)|refine s_ixa (h:=?_)|refine s_insert (h:=?_)|(refine s_sadd rfl ?_ (h:=?_);(exact Z11_))|(refine p_sadd rfl ?_ (h:=?_);(exact Z11_))|fail "")
          all_goals (try dsimp only at *)
          all_goals first
            | (exact endwA_)
            | (subst he;(exact endwA_))
            | (exfalso;omega)
            | skip
    · rw [if_neg hx] at h2 ⊢
      clear hlw
      obtain ⟨b0,space,pace,flow,credit,ids,grant,opened,lanes,b1,queue,last,resets,b2,code⟩:=c
      dsimp only at *
      cases b2
      all_goals
        first|rw [if_pos rfl]|rw [if_neg (by decide)]
        refine fn_of_run (by kernel_rfl) Tryz.func39 rfl (by kernel_rfl) ?_
        (repeat' first|(refine s_call (h1) (h:=?_))|(refine p_call (h1) (h:=?_))|(refine s_callM [] (hF) (h:=?_))|(refine s_callM [4,2,3] (h2) (h:=?_))|(refine p_callM [4,2,3] (h2) (h:=?_))|refine s_i (hq:=q_nil2_eql rfl rfl rfl rfl) (h:=?_)|(refine goI_ ?_;((repeat' first|exact True.intro|refine Two.mk ?_ ?_);all_goals intros))|refine s_i (h:=?_)|refine s_i (hq:=q_index_ro rfl rfl rfl (by first|exact lit0|exact lit1|exact lit2|exact lit3|rfl) (by simp only [List.length_cons,List.length_nil];omega) rfl rfl rfl rfl) (h:=?_)|refine p_i (h:=?_)|refine p_ih (h:=?_)|refine s_lit (h:=?_)|refine p_lit (h:=?_)|refine p_lit0 (h:=?_)|refine s_lit0 (h:=?_)|refine s_ixa (h:=?_)|refine s_insert (h:=?_)|(refine s_sadd rfl ?_ (h:=?_);(exact Z11_))|(refine p_sadd rfl ?_ (h:=?_);(exact Z11_))|fail "")
        all_goals (try dsimp only at *)
        all_goals first
          | (exact endwA_)
          | (exfalso;omega)
          | skip
  · rw [h0] at h1 ⊢
    rw [if_neg (by decide)]
    refine fn_of_run (by kernel_rfl) Tryz.func39 rfl (by kernel_rfl) ?_
    (repeat' first|(refine s_call (h1) (h:=?_))|(refine p_call (h1) (h:=?_))|(refine go_ ?_;((repeat' first|exact True.intro|refine Two.mk ?_ ?_);all_goals intros))|fail "")
    all_goals first
      | (exact endwA_)
      | skip
end Go.Proofs.YtendheafcbickaaGreat


set_option linter.unusedVariables false
set_option linter.unusedSimpArgs false
set_option linter.unusedVariables false
namespace Go.Proofs.YtendheafcbickaaGreat
set_option maxRecDepth 100000
attribute [local irreducible] Run RunL QStep GStep Fn Less PL FnM
theorem gWay_fn (k:Int) (up:Bool):Fn Tryz.prog 80 [.lit (.int .u64 k),.lit (.bool up)] (.lit (.int .u64 (wayV k up))):=by
  have h1:=fun x=>mix_fn x
  unfold wayV
  cases up
  · rw [if_neg (by decide)]
    refine fn_of_run (by kernel_rfl) Tryz.func80 rfl (by kernel_rfl) ?_
    (repeat' first|(refine s_call (h1 _) (h:=?_))|(refine p_call (h1 _) (h:=?_))|(refine go_ ?_;((repeat' first|exact True.intro|refine Two.mk ?_ ?_);all_goals intros))|fail "")
    all_goals first
      | (exact endwA_)
      | skip
  · rw [if_pos rfl]
    refine fn_of_run (by kernel_rfl) Tryz.func80 rfl (by kernel_rfl) ?_
    (repeat' first|(refine s_call (h1 _) (h:=?_))|(refine p_call (h1 _) (h:=?_))|(refine go_ ?_;((repeat' first|exact True.intro|refine Two.mk ?_ ?_);all_goals intros))|fail "")
    all_goals first
      | (exact endwA_)
      | skip
theorem wayKey_fn (k:Int) (up:Bool):Fn Tryz.prog 87 [.lit (.int .u64 k),.lit (.bool up)] (.lit (.int .u64 (wayV k up))):=by
  have h1:=fun x=>mixed_fn x
  unfold wayV
  cases up
  · rw [if_neg (by decide)]
    refine fn_of_run (by kernel_rfl) Tryz.func87 rfl (by kernel_rfl) ?_
    (repeat' first|(refine s_call (h1 _) (h:=?_))|(refine p_call (h1 _) (h:=?_))|(refine go_ ?_;((repeat' first|exact True.intro|refine Two.mk ?_ ?_);all_goals intros))|fail "")
    all_goals first
      | (exact endwA_)
      | skip
  · rw [if_pos rfl]
    refine fn_of_run (by kernel_rfl) Tryz.func87 rfl (by kernel_rfl) ?_
    (repeat' first|(refine s_call (h1 _) (h:=?_))|(refine p_call (h1 _) (h:=?_))|(refine go_ ?_;((repeat' first|exact True.intro|refine Two.mk ?_ ?_);all_goals intros))|fail "")
    all_goals first
      | (exact endwA_)
      | skip
def shRaw (to:Int):List V:=[.lit (.int .i64 2),.lit (.int .i64 to),.lit (.int .i64 0),.lit (.slice none 0 0),.lit (.int .i64 0),.lit (.int .i64 0)]
theorem shRaw_wk (to:Int):Wk (.agg (shRaw to)) (.agg (encHead (shH to))):=
  .agg (.cons (.refl _) (.cons (.refl _) (.cons (.refl _) (.cons .nil (.cons (.refl _) (.cons (.refl _) .nil))))))
theorem packetS_fn (key to n acked:Int) (l:List DFrame) (hto:I64 to) (hl:∀ f ∈ l,wfFrame f) (hll:l.length≤1048576):Fn Tryz.prog 102 [.lit (.int .u64 key),.agg (shRaw to),.lit (.int .i64 n),.lit (.int .i64 acked),.ro (l.map encFrame)] (encPk (pktR key (shH to) n acked l)):=
  fn_wk (packet_fn key (shH to) n acked l (shH_wf hto) hl hll) (.cons (.refl _) (.cons (shRaw_wk to) (.cons (.refl _) (.cons (.refl _) (.cons (.refl _) .nil)))))
theorem packetOfS_fn (key to n acked:Int) (l:List DFrame) (hto:I64 to) (hn:I64 n) (ha:I64 acked) (hl:∀ f ∈ l,wfFrame f) (hll:l.length≤1048576):Fn Tryz.prog 109 [.lit (.int .u64 key),.agg (shRaw to),.lit (.int .i64 n),.lit (.int .i64 acked),.ro (l.map encFrame)] (encPk (pktR key (shH to) n acked l)):=
  fn_wk (packetOf_fn key (shH to) n acked l (shH_wf hto) hn ha hl hll) (.cons (.refl _) (.cons (shRaw_wk to) (.cons (.refl _) (.cons (.refl _) (.cons (.refl _) .nil)))))
def encTold (r:DClient×List (List UInt8)):V:=.tup [.agg (encClient r.1),.ro (r.2.map encBs)]
end Go.Proofs.YtendheafcbickaaGreat


set_option linter.unusedSimpArgs false
set_option linter.unusedVariables false
namespace Go.Proofs.YtendheafcbickaaGreat
open Go.RowKit
section
variable {P:Program} {n0:Nat}
theorem less_boxnil {id T j0:Nat} {cs cs':List V} {st:St} (e s:Nat) (h0:Nat.blt 0 s=true) (hn0:Nat.ble n0 st.next=true) (hne:Nat.beq id st.next=false) (hh:getH st.heap id=some (.box T cs)) (hj0:j0<cs.length) (hc0:cAt cs j0 = .lit (.slice none 0 0)) (hcs:cs.set j0 (.own st.next)=cs') :
    Less P n0 st { env:=st.env,heap:=(id,some (.box T cs')) :: (st.next,some (.row e s [])) :: st.heap,next:=st.next+1,nt:=st.nt }:=fun F base w0 ρ a w hH hE=>by
  subst hcs
  obtain ⟨ρ',q1,q2,q3,q4⟩:=less_row e s h0 hn0 hH hE
  have hidn:id≠st.next:=fun e=>by rw [e] at hne;simp at hne
  have hh':getH ((st.next,some (.row e s [])) :: st.heap) id=some (.box T cs):=by
    rw [getH_new,if_neg (Ne.symm hidn)];exact hh
  obtain ⟨p1,p2,p3⟩:=q1.step (ρ':=ρ') (heap':=(id,some (.box T (cs.set j0 (.own st.next)))) :: (st.next,some (.row e s [])) :: st.heap) (next':=st.next+1) (w':=w) id none
    ⟨rfl,rfl,rfl,Nat.le_refl _,fun _ _ _=>rfl⟩ (fun k hk=>by cases hk) (fun _ _ h=>h) (fun j u h=>q1.sup j u h)
    (fun j B hj hB=>by
      rw [getH_new,if_neg (Ne.symm hj)] at hB
      obtain ⟨u,hu⟩:=q1.some_of hB
      exact ⟨hB,u,hu,fun _ _ _ e=>by cases e⟩)
    (fun B u b hB hoB hu hb=>by
      refine .inr ⟨fun hs=>hs.2 id _ _ hh' rfl hu hb,fun j B' u' hj hB' ho' hu' hb'=>?_⟩
      rw [getH_new,if_neg (Ne.symm hj)] at hB'
      exact hj (q1.inj j id B' _ u' _ b hB' hh' ho' rfl hu' hu hb' hb))
    (fun B hB hS hsame=>by
      rw [getH_new,if_pos rfl] at hB;injection hB with hB;subst hB
      obtain ⟨b,us,e1,e2,e3,e4,e5⟩:=q1.blk _ _ hh'
      refine ⟨b,us,e1,e2,by first|exact e3|(rw [List.length_set];exact e3),by first|exact e4|(rw [List.length_set];exact e4),fun j hj=>?_⟩
      rw [List.length_set] at hj
      have h5:=e5 j hj
      rw [cAt_setc _ _ _ _ hj]
      refine ⟨?_,h5.2⟩
      by_cases hjj:j=j0
      · subst hjj
        rw [if_pos rfl]
        rw [hc0] at h5
        have:=lit_inv h5.1
        rw [this]
        exact .own q3
      · rw [if_neg hjj]
        exact h5.1.mono (Same.refl _ _) hS (fun _ _ h=>h))
  exact ⟨ρ',p1,q2.mono p2 p3 (fun _ _ h=>h),fun j hj=>q4 j (by have:=Nat.le_of_ble_eq_true hn0;omega)⟩
end
end Go.Proofs.YtendheafcbickaaGreat
