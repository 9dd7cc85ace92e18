
import Derived.Test.YtendheafcbickaaGreatHZip
import Derived.Test.YtendheafcbickaaGreatHGo
import Derived.Test.YtendheafcbickaaGreatHGtF
import Derived.Test.YtendheafcbickaaGreatHMg18
set_option linter.unusedVariables false
set_option linter.unusedSimpArgs false
set_option linter.unusedVariables false
namespace Go.Proofs.YtendheafcbickaaGreat
set_option maxRecDepth 100000
attribute [local irreducible] Run RunL QStep GStep Fn Less PL FnM
def encGm (r:DGate×List DMail×Int):V:=.tup [.agg (encGate r.1),.ro (r.2.1.map encMail),.lit (.int .i64 r.2.2)]
theorem ntIx_le (ask:DNote→Bool):∀ (l:List DNote),ntIx ask l≤l.length
  | []=>Nat.le_refl _
  | n :: l=>by
    unfold ntIx
    split
    · omega
    · have:=ntIx_le ask l;rw [List.length_cons];omega
theorem ntIx_at (ask:DNote→Bool):∀ (l:List DNote),ntIx ask l<l.length→ask (l.getD (ntIx ask l) default)=true
  | [],h=>by simp [ntIx] at h
  | n :: l,h=>by
    unfold ntIx at h ⊢
    split
    · assumption
    · rename_i h1
      rw [if_neg h1,List.length_cons] at h
      exact ntIx_at ask l (by omega)
theorem ntIx_bef (ask:DNote→Bool):∀ (l:List DNote) (i:Nat),i<ntIx ask l→ask (l.getD i default)=false
  | [],i,h=>by simp [ntIx] at h
  | n :: l,i,h=>by
    unfold ntIx at h
    split at h
    · omega
    · rename_i h1
      cases i with
      | zero=>simpa using h1
      | succ i=>exact ntIx_bef ask l i (by omega)
def mapTo {α:Type} (f:α→α) (l:List α) (k:Nat):List α:=(l.map f).take k++l.drop k
set_option maxHeartbeats 4000000 in
theorem setNote_fn (g:DGate) (i:Nat) (n:DNote) (hl:g.Notes.length≤1000000) (hi:i<g.Notes.length):Fn Tryz.prog 46 [.agg (encGate g),.lit (.int .i64 i),.agg (encNote n)] (.agg (encGate (gtSetN g i n))):=by
  unfold gtSetN
  generalize hZ:encGate { g with Notes:=g.Notes.set i n }=Z
  unfold encGate at hZ
  dsimp only at hZ
  subst hZ
  have hin:i<(g.Notes.map encNote).length:=by rw [List.length_map];exact hi
  have hs:(g.Notes.map encNote).set i (encNote n)=(g.Notes.set i n).map encNote:=by rw [List.map_set]
  have hat:=eAt_map encNote hi
  have hst:(g.Notes.map encNote).set i (setAt 0 (encNote n) (eAt (g.Notes.map encNote) i))=(g.Notes.set i n).map encNote:=by rw [hat];exact hs
  refine fn_of_run (by kernel_rfl) Tryz.func46 rfl (by kernel_rfl) ?_
  (repeat' first|(refine s_app (r:=g.Notes.map encNote) ?_ ?_ ?_ ?_ (h:=?_);(exact Z65_);(exact Z47_);(exact Z12_);(exact Z22_))|(refine s_app0R (r:=g.Notes.map encNote) ?_ ?_ ?_ ?_ (h:=?_);(exact Z65_);(exact Z47_);(exact Z12_);(exact Z22_))|(refine p_app (r:=g.Notes.map encNote) ?_ ?_ ?_ ?_ (h:=?_);(exact Z65_);(exact Z47_);(exact Z12_);(exact Z22_))|(refine s_set (r:=(g.Notes.set i n).map encNote) ?_ ?_ (h:=?_);(exact Z13_);(focus ((exact hst))))|(refine p_set (r:=(g.Notes.set i n).map encNote) ?_ ?_ (h:=?_);(exact Z13_);(focus ((exact hst))))|(refine go_ ?_;((repeat' first|exact True.intro|refine Two.mk ?_ ?_);all_goals intros))|fail "")
  all_goals first
    | (exact endwA_)
    | skip
theorem ask1_fnm (n:DNote) (id:Int):FnM Tryz.prog 38 [.agg (encNote n),.ptr 0 0 0 0] [(0,some (.box 3 [.lit (.int .i64 id)]))] 1 (.lit (.bool (decide (n.Id=id)))) [(0,some (.box 3 [.lit (.int .i64 id)]))] 1:=by
  by_cases h:n.Id=id
  · rw [decide_eq_true h]
    refine fnm_of_run (by kernel_rfl) Tryz.func38 rfl (by kernel_rfl) (by rfl) ?_
    (repeat' first|(refine go_ ?_;((repeat' first|exact True.intro|refine Two.mk ?_ ?_);all_goals intros))|fail "")
    all_goals first
      | (exact endmA_)
      | (exfalso;omega)
      | skip
  · rw [decide_eq_false h]
    refine fnm_of_run (by kernel_rfl) Tryz.func38 rfl (by kernel_rfl) (by rfl) ?_
    (repeat' first|(refine go_ ?_;((repeat' first|exact True.intro|refine Two.mk ?_ ?_);all_goals intros))|fail "")
    all_goals first
      | (exact endmA_)
      | (exfalso;omega)
      | skip
theorem askR1_fnm (n:DNote) (id:Int):FnM Tryz.prog 43 [.agg (encNote n),.ptr 0 0 0 0] [(0,some (.box 3 [.lit (.int .i64 id)]))] 1 (.lit (.bool (decide (n.Id=id)))) [(0,some (.box 3 [.lit (.int .i64 id)]))] 1:=by
  by_cases h:n.Id=id
  · rw [decide_eq_true h]
    refine fnm_of_run (by kernel_rfl) Tryz.func43 rfl (by kernel_rfl) (by rfl) ?_
    (repeat' first|(refine go_ ?_;((repeat' first|exact True.intro|refine Two.mk ?_ ?_);all_goals intros))|fail "")
    all_goals first
      | (exact endmA_)
      | (exfalso;omega)
      | skip
  · rw [decide_eq_false h]
    refine fnm_of_run (by kernel_rfl) Tryz.func43 rfl (by kernel_rfl) (by rfl) ?_
    (repeat' first|(refine go_ ?_;((repeat' first|exact True.intro|refine Two.mk ?_ ?_);all_goals intros))|fail "")
    all_goals first
      | (exact endmA_)
      | (exfalso;omega)
      | skip
set_option maxHeartbeats 8000000 in
theorem deskNote_fnm (g:DGate) (id:Int) (hl:g.Notes.length≤1000) (r:V) (hr:(ntIx (fun n=>decide (n.Id=id)) g.Notes<g.Notes.length∧r = .ptr 1 (ntIx (fun n=>decide (n.Id=id)) g.Notes) 29 0)∨(¬ ntIx (fun n=>decide (n.Id=id)) g.Notes<g.Notes.length∧r = .lit (.pointer none))) :
    FnM Tryz.prog 37 [.ptr 0 0 0 0,.clo 38 [.ptr 2 0 0 0]] [(0,some (.box 86 (deskC g (.own 1) (.lit (.slice none 0 0))))),(1,some (.row 90 29 (g.Notes.map encNote))),(2,some (.box 3 [.lit (.int .i64 id)]))] 3
      r [(0,some (.box 86 (deskC g (.own 1) (.lit (.slice none 0 0))))),(1,some (.row 90 29 (g.Notes.map encNote))),(2,some (.box 3 [.lit (.int .i64 id)]))] 3:=by
  have hle:=ntIx_le (fun n=>decide (n.Id=id)) g.Notes
  have hat0:=ntIx_at (fun n=>decide (n.Id=id)) g.Notes
  have hbef:=ntIx_bef (fun n=>decide (n.Id=id)) g.Notes
  generalize ntIx (fun n=>decide (n.Id=id)) g.Notes=ix at *
  unfold deskC
  refine fnm_of_run (by kernel_rfl) Tryz.func37 rfl (by kernel_rfl) (by rfl) ?_
  (repeat' first|(refine go_ ?_;((repeat' first|exact True.intro|refine Two.mk ?_ ?_);all_goals intros))|fail "")
  refine r_for (fun k:Nat=>⟨[(0,.ptr 0 0 0 0),(1,.clo 38 [.ptr 2 0 0 0]),(11,.lit (.int .i64 g.Notes.length)),(12,.lit (.int .i64 k))],[(0,some (.box 86 [.lit (.int .u64 g.Secret),.lit (.int .i64 g.Now),.lit (.int .i64 g.Next),.own 1,.lit (.bool g.Tally0.Known),.lit (.int .i64 g.Tally0.Got),.lit (.int .i64 g.Tally0.Sent),.lit (.bool g.Tally1.Known),.lit (.int .i64 g.Tally1.Got),.lit (.int .i64 g.Tally1.Sent),.lit (.bool g.Tally2.Known),.lit (.int .i64 g.Tally2.Got),.lit (.int .i64 g.Tally2.Sent),.lit (.bool g.Tally3.Known),.lit (.int .i64 g.Tally3.Got),.lit (.int .i64 g.Tally3.Sent),.lit (.bool g.Retry),.lit (.int .i64 g.Shed),.lit (.slice none 0 0)])),(1,some (.row 90 29 (g.Notes.map encNote))),(2,some (.box 3 [.lit (.int .i64 id)]))],3,Tryz.f37.ntmps⟩)
    (fun k=>k≤ix) (fun k=>g.Notes.length - k) 0 (Nat.zero_le _) (by (exact lessA_)) ?_
  intro k hk
  by_cases hkn:k<g.Notes.length
  · have hin:k<(g.Notes.map encNote).length:=by rw [List.length_map];exact hkn
    have hat:=eAt_map encNote hkn
    have hc:=ask1_fnm (g.Notes.getD k default) id
    by_cases he:(g.Notes.getD k default).Id=id
    · have hik:ix=k:=by
        by_cases h:k<ix
        · have:=hbef k h;rw [decide_eq_true he] at this;cases this
        · omega
      subst hik
      rw [decide_eq_true he] at hc
      rcases hr with ⟨_,rfl⟩ | ⟨h,_⟩
      · (repeat' first|refine s_i (hq:=q_load_one rfl rfl rfl (reads_row rfl hin rfl hat) rfl) (h:=?_)|refine s_i (hq:=q_load_agg rfl rfl rfl rfl (reads_row rfl hin rfl hat) (Nat.le_of_ble_eq_true rfl)) (h:=?_)|refine p_ih (hq:=fun N=>q_load_one rfl rfl rfl (reads_row rfl hin rfl hat) rfl) (h:=?_)|refine p_ih (hq:=fun N=>q_load_agg rfl rfl rfl rfl (reads_row rfl hin rfl hat) (Nat.le_of_ble_eq_true rfl)) (h:=?_)|refine s_callV [2] (hc) (h:=?_)|(refine goI_ ?_;((repeat' first|exact True.intro|refine Two.mk ?_ ?_);all_goals intros))|refine s_i (h:=?_)|refine s_i (hq:=q_index_ro rfl rfl rfl (by first|exact lit0|exact lit1|exact lit2|exact lit3|rfl) (by simp only [List.length_cons,List.length_nil];omega) rfl rfl rfl rfl) (h:=?_)|refine p_i (h:=?_)|refine p_ih (h:=?_)|refine s_lit (h:=?_)|refine p_lit (h:=?_)|refine p_lit0 (h:=?_)|refine s_lit0 (h:=?_)|refine s_ixa (h:=?_)|refine s_insert (h:=?_)|(refine s_sadd rfl ?_ (h:=?_);(exact Z11_))|(refine p_sadd rfl ?_ (h:=?_);(exact Z11_))|fail "")
        all_goals first
          | (exact endmA_)
          | (exfalso;omega)
          | skip
      · exact absurd hkn h
    · rw [decide_eq_false he] at hc
      have hne:k≠ix:=fun e=>by
        subst e
        have:=hat0 hkn
        rw [decide_eq_false he] at this;cases this
      (repeat' first|refine s_i (hq:=q_load_one rfl rfl rfl (reads_row rfl hin rfl hat) rfl) (h:=?_)|refine s_i (hq:=q_load_agg rfl rfl rfl rfl (reads_row rfl hin rfl hat) (Nat.le_of_ble_eq_true rfl)) (h:=?_)|refine p_ih (hq:=fun N=>q_load_one rfl rfl rfl (reads_row rfl hin rfl hat) rfl) (h:=?_)|refine p_ih (hq:=fun N=>q_load_agg rfl rfl rfl rfl (reads_row rfl hin rfl hat) (Nat.le_of_ble_eq_true rfl)) (h:=?_)|refine s_callV [2] (hc) (h:=?_)|(refine goI_ ?_;((repeat' first|exact True.intro|refine Two.mk ?_ ?_);all_goals intros))|refine s_i (h:=?_)|refine s_i (hq:=q_index_ro rfl rfl rfl (by first|exact lit0|exact lit1|exact lit2|exact lit3|rfl) (by simp only [List.length_cons,List.length_nil];omega) rfl rfl rfl rfl) (h:=?_)|refine p_i (h:=?_)|refine p_ih (h:=?_)|refine s_lit (h:=?_)|refine p_lit (h:=?_)|refine p_lit0 (h:=?_)|refine s_lit0 (h:=?_)|refine s_ixa (h:=?_)|refine s_insert (h:=?_)|(refine s_sadd rfl ?_ (h:=?_);(exact Z11_))|(refine p_sadd rfl ?_ (h:=?_);(exact Z11_))|fail "")
      all_goals first
        | (refine ⟨k+1,?_,?_,?_⟩;rotate_left 2;(exact lessA_);(exact Z69_);(exact Z69_))
        | (exfalso;omega)
        | skip
  · rcases hr with ⟨h,_⟩ | ⟨_,rfl⟩
    · exact absurd h (by omega)
    · (repeat' first|(refine go_ ?_;((repeat' first|exact True.intro|refine Two.mk ?_ ?_);all_goals intros))|fail "")
      all_goals first
        | (exact endmA_)
        | (exfalso;omega)
        | skip
set_option maxHeartbeats 8000000 in
theorem noteAt_fnm (g:DGate) (id:Int) (hl:g.Notes.length≤1000) :
    FnM Tryz.prog 42 [.agg (encGate g),.clo 43 [.ptr 0 0 0 0]] [(0,some (.box 3 [.lit (.int .i64 id)]))] 1
      (.lit (.int .i64 (if ntIx (fun n=>decide (n.Id=id)) g.Notes<g.Notes.length then (ntIx (fun n=>decide (n.Id=id)) g.Notes:Int) else -1))) [(0,some (.box 3 [.lit (.int .i64 id)]))] 1:=by
  have hle:=ntIx_le (fun n=>decide (n.Id=id)) g.Notes
  have hat0:=ntIx_at (fun n=>decide (n.Id=id)) g.Notes
  have hbef:=ntIx_bef (fun n=>decide (n.Id=id)) g.Notes
  generalize ntIx (fun n=>decide (n.Id=id)) g.Notes=ix at *
  refine fnm_of_run (by kernel_rfl) Tryz.func42 rfl (by kernel_rfl) (by rfl) ?_
  (repeat' first|(refine go_ ?_;((repeat' first|exact True.intro|refine Two.mk ?_ ?_);all_goals intros))|fail "")
  refine r_for (fun k:Nat=>⟨[(1,.clo 43 [.ptr 0 0 0 0]),(8,.ro (g.Notes.map encNote)),(9,.lit (.int .i64 g.Notes.length)),(10,.lit (.int .i64 k))],[(0,some (.box 3 [.lit (.int .i64 id)]))],1,Tryz.f42.ntmps⟩)
    (fun k=>k≤ix) (fun k=>g.Notes.length - k) 0 (Nat.zero_le _) (by (exact lessA_)) ?_
  intro k hk
  by_cases hkn:k<g.Notes.length
  · have hc:=askR1_fnm (g.Notes.getD k default) id
    by_cases he:(g.Notes.getD k default).Id=id
    · have hik:ix=k:=by
        by_cases h:k<ix
        · have:=hbef k h;rw [decide_eq_true he] at this;cases this
        · omega
      subst hik
      rw [decide_eq_true he] at hc
      rw [if_pos hkn]
      (repeat' first|refine s_callV [0] (hc) (h:=?_)|(refine go_ ?_;((repeat' first|exact True.intro|refine Two.mk ?_ ?_);all_goals intros))|fail "")
      all_goals first
        | (exact endmA_)
        | (exfalso;omega)
        | skip
    · rw [decide_eq_false he] at hc
      have hne:k≠ix:=fun e=>by
        subst e
        have:=hat0 hkn
        rw [decide_eq_false he] at this;cases this
      (repeat' first|refine s_callV [0] (hc) (h:=?_)|(refine go_ ?_;((repeat' first|exact True.intro|refine Two.mk ?_ ?_);all_goals intros))|fail "")
      all_goals first
        | (refine ⟨k+1,?_,?_,?_⟩;rotate_left 2;(exact lessA_);(exact Z69_);(exact Z69_))
        | (exfalso;omega)
        | skip
  · rw [if_neg (by omega)]
    (repeat' first|(refine go_ ?_;((repeat' first|exact True.intro|refine Two.mk ?_ ?_);all_goals intros))|fail "")
    all_goals first
      | (exact endmA_)
      | (exfalso;omega)
      | skip
set_option maxHeartbeats 16000000 in
theorem gAnswer_fn (g:DGate) (id lane:Int) (b:List UInt8) (hu:U.wfGate g) (hb:b.length≤1048576):Fn Tryz.prog 10 [.agg (encGate g),.lit (.int .i64 id),.lit (.int .i64 lane),.ro (b.map encB)] (encGm (gtAnsR g id lane b)):=by
  have hw:=U.wf_leGate g hu
  have h1:=gateCheck_fn g hw
  have hwn:=hw.2.2.2.2.1
  have hI:=fun h0=>gtChk (g:=g) h0 hu
  unfold gtAnsR encGm
  generalize gtFlt g=f at *
  by_cases h0:f=0
  · subst h0
    rw [if_pos rfl]
    obtain ⟨hJ,hL,hI3⟩:=hI rfl
    have hl3:=hL.k
    have h2:=gfresh_fnm g hwn (by omega)
    have h2f:=gfresh_fn g hwn (by omega)
    have h3:=deskNote_fnm g id (by omega)
    generalize ntIx (fun n=>decide (n.Id=id)) g.Notes=ix at *
    unfold deskC at h3
    unfold gateC at h2
    clear hu hw hwn
    by_cases hx:ix<g.Notes.length
    · rw [if_pos hx]
      have h3:=h3 _ (.inl ⟨hx,rfl⟩)
      have hni:=hL.n _ (getD_mem hx)
      have hin:ix<(g.Notes.map encNote).length:=by rw [List.length_map];exact hx
      have hat:=eAt_map encNote hx
      have h4:=connWrite_fn (g.Notes.getD ix default).Conn lane b true (W.wf_leConn _ (HI_wf hni.j hni.l (by omega))) hb
      have hW:=fun h=>writeR_I (id:=lane) (b:=b) (fin:=true) hni.j hni.l h
      generalize cnWriteR (g.Notes.getD ix default).Conn lane b true=WW at *
      obtain ⟨wc,we⟩:=WW
      unfold encCnE at h4
      dsimp only at *
      by_cases hwe:we=0
      · subst hwe
        rw [if_pos rfl]
        have hW:=hW rfl
        have hst:(g.Notes.map encNote).set ix (setAt 5 (encConn wc) (eAt (g.Notes.map encNote) ix))=(g.Notes.set ix (ntCn (g.Notes.getD ix default) wc)).map encNote:=by
          rw [hat,List.map_set];rfl
        have hn2:∀ y ∈ g.Notes.set ix (ntCn (g.Notes.getD ix default) wc),NI 4194304 y:=fun y hy=>by
          rcases List.mem_or_eq_of_mem_set hy with hy|hy
          · exact hL.n y hy
          · exact hy ▸ hni.cn hW.1 hW.2
        have hJ2:GJ (gtSetN g ix (ntCn (g.Notes.getD ix default) wc)):=⟨hJ.s,hJ.n,hJ.x,hJ.t0,hJ.t1,hJ.t2,hJ.t3,hJ.h⟩
        have hlen2:(g.Notes.set ix (ntCn (g.Notes.getD ix default) wc)).length=g.Notes.length:=List.length_set ..
        have hfI:=gtFl_I (B:=4194304) (o:=[]) (by omega) hJ2 ⟨by (unfold gtSetN;dsimp only;omega),hn2⟩
        unfold gtFl at hfI ⊢
        generalize hR:ntAll ((gtSetN g ix (ntCn (g.Notes.getD ix default) wc))).Now ((gtSetN g ix (ntCn (g.Notes.getD ix default) wc))).Notes (gtSetN g ix (ntCn (g.Notes.getD ix default) wc)) [] []=R at *
        obtain ⟨G,O,L⟩:=R
        have h5:=deskFlush_fnm (B:=4194304) (gtSetN g ix (ntCn (g.Notes.getD ix default) wc)) _ [] (by omega) hJ2 hn2 rfl (by omega) (by simp) G O L hR
        have h6:=gfresh_fn (gtNts G L) (fun y hy=>W.wf_leNote _ ((hfI.2.1.n y hy).wf (by omega))) (Nat.le_trans hfI.2.1.k (by omega))
        generalize hZ:encGate (gtNts G L)=Z at h6 ⊢
        unfold encGate gtNts at hZ
        dsimp only at hZ
        subst hZ
        unfold deskC gtSetN at h5
        dsimp only at h5
        clear hI hI3 hJ hL hni hW hJ2 hfI hn2 hR
        refine fn_of_run (by kernel_rfl) Tryz.func10 rfl (by kernel_rfl) ?_
        (repeat' first|(refine s_call (h1) (h:=?_))|(refine p_call (h1) (h:=?_))|(refine s_callM [] (h2) (h:=?_))|(refine s_callM [4,3,1] (h3) (h:=?_))|(refine p_callM [4,3,1] (h3) (h:=?_))|(refine s_call (h4) (h:=?_))|(refine p_call (h4) (h:=?_))|refine s_i (hq:=q_nil_eql rfl rfl rfl rfl) (h:=?_)|refine s_i (hq:=q_nil2_eql rfl rfl rfl rfl) (h:=?_)|refine s_i (hq:=q_load_one rfl rfl rfl (reads_row rfl hin rfl hat) rfl) (h:=?_)|refine s_i (hq:=q_load_agg rfl rfl rfl rfl (reads_row rfl hin rfl hat) (Nat.le_of_ble_eq_true rfl)) (h:=?_)|refine p_ih (hq:=fun N=>q_load_one rfl rfl rfl (reads_row rfl hin rfl hat) rfl) (h:=?_)|refine p_ih (hq:=fun N=>q_load_agg rfl rfl rfl rfl (reads_row rfl hin rfl hat) (Nat.le_of_ble_eq_true rfl)) (h:=?_)|(refine s_set (r:=(g.Notes.set ix (ntCn (g.Notes.getD ix default) wc)).map encNote) ?_ ?_ (h:=?_);(exact Z13_);(focus ((exact hst))))|(refine p_set (r:=(g.Notes.set ix (ntCn (g.Notes.getD ix default) wc)).map encNote) ?_ ?_ (h:=?_);(exact Z13_);(focus ((exact hst))))|(refine goV_ 12 ?_;((repeat' first|exact True.intro|refine Two.mk ?_ ?_);all_goals intros))|refine s_i (h:=?_)|refine s_i (hq:=q_index_ro rfl rfl rfl (by first|exact lit0|exact lit1|exact lit2|exact lit3|rfl) (by simp only [List.length_cons,List.length_nil];omega) rfl rfl rfl rfl) (h:=?_)|refine p_i (h:=?_)|refine p_ih (h:=?_)|refine s_lit (h:=?_)|refine p_lit (h:=?_)|refine p_lit0 (h:=?_)|refine s_lit0 (h:=?_)|refine s_ixa (h:=?_)|refine s_insert (h:=?_)|(refine s_sadd rfl ?_ (h:=?_);(exact Z11_))|(refine p_sadd rfl ?_ (h:=?_);(exact Z11_))|fail "")
        all_goals try (exfalso;omega)
        refine r_less (st':=⟨[(12,.ptr 1 0 0 0),(8,.ptr 0 0 0 0),(9,.lit (.slice none 0 0)),(10,.lit (.int .i64 0))],[(0,some (.box 28 [.lit (.int .u64 0),.lit (.int .i64 0),.lit (.int .i64 0),.lit (.slice none 0 0),.lit (.bool false),.lit (.int .i64 0),.lit (.int .i64 0),.lit (.bool false),.lit (.int .i64 0),.lit (.int .i64 0),.lit (.bool false),.lit (.int .i64 0),.lit (.int .i64 0),.lit (.bool false),.lit (.int .i64 0),.lit (.int .i64 0),.lit (.bool false),.lit (.int .i64 0)])),(1,some (.box 86 [.lit (.int .u64 g.Secret),.lit (.int .i64 g.Now),.lit (.int .i64 g.Next),.ro ((g.Notes.set ix (ntCn (g.Notes.getD ix default) wc)).map encNote),.lit (.bool g.Tally0.Known),.lit (.int .i64 g.Tally0.Got),.lit (.int .i64 g.Tally0.Sent),.lit (.bool g.Tally1.Known),.lit (.int .i64 g.Tally1.Got),.lit (.int .i64 g.Tally1.Sent),.lit (.bool g.Tally2.Known),.lit (.int .i64 g.Tally2.Got),.lit (.int .i64 g.Tally2.Sent),.lit (.bool g.Tally3.Known),.lit (.int .i64 g.Tally3.Got),.lit (.int .i64 g.Tally3.Sent),.lit (.bool g.Retry),.lit (.int .i64 g.Shed),.lit (.slice none 0 0)]))],2,Tryz.f10.ntmps⟩) (by (exact lessA_)) ?_
        refine r_less (less_boxnil (id:=1) (j0:=18) 99 2 rfl rfl rfl rfl (Nat.le_of_ble_eq_true rfl) rfl rfl) ?_
        (repeat' first|(refine s_callM [1,2] (h5) (h:=?_))|(refine p_callM [1,2] (h5) (h:=?_))|(refine goU_ 13 ?_;((repeat' first|exact True.intro|refine Two.mk ?_ ?_);all_goals intros))|fail "")
        refine r_less (st':=⟨[(12,.ptr 1 0 0 0),(8,.ptr 0 0 0 0),(9,.lit (.slice none 0 0)),(10,.lit (.int .i64 0))],[(0,some (.box 28 [.lit (.int .u64 0),.lit (.int .i64 0),.lit (.int .i64 0),.lit (.slice none 0 0),.lit (.bool false),.lit (.int .i64 0),.lit (.int .i64 0),.lit (.bool false),.lit (.int .i64 0),.lit (.int .i64 0),.lit (.bool false),.lit (.int .i64 0),.lit (.int .i64 0),.lit (.bool false),.lit (.int .i64 0),.lit (.int .i64 0),.lit (.bool false),.lit (.int .i64 0)])),(1,some (.box 86 [.lit (.int .u64 G.Secret),.lit (.int .i64 G.Now),.lit (.int .i64 G.Next),.ro (L.map encNote),.lit (.bool G.Tally0.Known),.lit (.int .i64 G.Tally0.Got),.lit (.int .i64 G.Tally0.Sent),.lit (.bool G.Tally1.Known),.lit (.int .i64 G.Tally1.Got),.lit (.int .i64 G.Tally1.Sent),.lit (.bool G.Tally2.Known),.lit (.int .i64 G.Tally2.Got),.lit (.int .i64 G.Tally2.Sent),.lit (.bool G.Tally3.Known),.lit (.int .i64 G.Tally3.Got),.lit (.int .i64 G.Tally3.Sent),.lit (.bool G.Retry),.lit (.int .i64 G.Shed),.ro (O.map encMail)]))],2,Tryz.f10.ntmps⟩) (by (exact lessA_)) ?_
        (repeat' first|(refine s_call (h6) (h:=?_))|(refine p_call (h6) (h:=?_))|(refine go_ ?_;((repeat' first|exact True.intro|refine Two.mk ?_ ?_);all_goals intros))|fail "")
        all_goals (try dsimp only at *)
        all_goals first
          | (exact endwA_)
          | (exfalso;omega)
          | skip
      · rw [if_neg hwe]
        clear hI hI3 hJ hL hni hW
        refine fn_of_run (by kernel_rfl) Tryz.func10 rfl (by kernel_rfl) ?_
        (repeat' first|(refine s_call (h1) (h:=?_))|(refine p_call (h1) (h:=?_))|(refine s_callM [] (h2) (h:=?_))|(refine s_call (h2f) (h:=?_))|(refine p_call (h2f) (h:=?_))|(refine s_callM [4,3,1] (h3) (h:=?_))|(refine p_callM [4,3,1] (h3) (h:=?_))|(refine s_call (h4) (h:=?_))|(refine p_call (h4) (h:=?_))|refine s_i (hq:=q_nil_eql rfl rfl rfl rfl) (h:=?_)|refine s_i (hq:=q_nil2_eql rfl rfl rfl rfl) (h:=?_)|refine s_i (hq:=q_load_one rfl rfl rfl (reads_row rfl hin rfl hat) rfl) (h:=?_)|refine s_i (hq:=q_load_agg rfl rfl rfl rfl (reads_row rfl hin rfl hat) (Nat.le_of_ble_eq_true rfl)) (h:=?_)|refine p_ih (hq:=fun N=>q_load_one rfl rfl rfl (reads_row rfl hin rfl hat) rfl) (h:=?_)|refine p_ih (hq:=fun N=>q_load_agg rfl rfl rfl rfl (reads_row rfl hin rfl hat) (Nat.le_of_ble_eq_true rfl)) (h:=?_)|(refine goI_ ?_;((repeat' first|exact True.intro|refine Two.mk ?_ ?_);all_goals intros))|refine s_i (h:=?_)|refine s_i (hq:=q_index_ro rfl rfl rfl (by first|exact lit0|exact lit1|exact lit2|exact lit3|rfl) (by simp only [List.length_cons,List.length_nil];omega) rfl rfl rfl rfl) (h:=?_)|refine p_i (h:=?_)|refine p_ih (h:=?_)|refine s_lit (h:=?_)|refine p_lit (h:=?_)|refine p_lit0 (h:=?_)|refine s_lit0 (h:=?_)|refine s_ixa (h:=?_)|refine s_insert (h:=?_)|(refine s_sadd rfl ?_ (h:=?_);(exact Z11_))|(refine p_sadd rfl ?_ (h:=?_);(exact Z11_))|fail "")
        all_goals (try dsimp only at *)
        all_goals first
          | (exact endwA_)
          | (exfalso;omega)
          | skip
    · rw [if_neg hx]
      have h3:=h3 _ (.inr ⟨hx,rfl⟩)
      clear hI hI3 hJ hL
      refine fn_of_run (by kernel_rfl) Tryz.func10 rfl (by kernel_rfl) ?_
      (repeat' first|(refine s_call (h1) (h:=?_))|(refine p_call (h1) (h:=?_))|(refine s_callM [] (h2) (h:=?_))|(refine s_call (h2f) (h:=?_))|(refine p_call (h2f) (h:=?_))|(refine s_callM [4,3,1] (h3) (h:=?_))|(refine p_callM [4,3,1] (h3) (h:=?_))|refine s_i (hq:=q_nil_eql rfl rfl rfl rfl) (h:=?_)|refine s_i (hq:=q_nil2_eql rfl rfl rfl rfl) (h:=?_)|(refine goI_ ?_;((repeat' first|exact True.intro|refine Two.mk ?_ ?_);all_goals intros))|refine s_i (h:=?_)|refine s_i (hq:=q_index_ro rfl rfl rfl (by first|exact lit0|exact lit1|exact lit2|exact lit3|rfl) (by simp only [List.length_cons,List.length_nil];omega) rfl rfl rfl rfl) (h:=?_)|refine p_i (h:=?_)|refine p_ih (h:=?_)|refine s_lit (h:=?_)|refine p_lit (h:=?_)|refine p_lit0 (h:=?_)|refine s_lit0 (h:=?_)|refine s_ixa (h:=?_)|refine s_insert (h:=?_)|(refine s_sadd rfl ?_ (h:=?_);(exact Z11_))|(refine p_sadd rfl ?_ (h:=?_);(exact Z11_))|fail "")
      all_goals (try dsimp only at *)
      all_goals first
        | (exact endwA_)
        | (exfalso;omega)
        | skip
  · rw [if_neg h0]
    clear hI hu hw
    refine fn_of_run (by kernel_rfl) Tryz.func10 rfl (by kernel_rfl) ?_
    (repeat' first|(refine s_call (h1) (h:=?_))|(refine p_call (h1) (h:=?_))|(refine go_ ?_;((repeat' first|exact True.intro|refine Two.mk ?_ ?_);all_goals intros))|fail "")
    all_goals (try dsimp only at *)
    all_goals first
      | (exact endwA_)
      | (exfalso;omega)
      | skip
set_option maxHeartbeats 16000000 in
theorem gAnswered_fn (g:DGate) (id lane:Int) (b:List UInt8) (hu:U.wfGate g) (hb:b.length≤1048576):Fn Tryz.prog 11 [.agg (encGate g),.lit (.int .i64 id),.lit (.int .i64 lane),.ro (b.map encB)] (encGm (gtAnsR g id lane b)):=by
  have h1:=gateFault_fn g (W.of_Gate _ hu)
  have hI:=fun h0=>gtChk (g:=g) h0 hu
  unfold gtAnsR encGm
  generalize gtFlt g=f at *
  by_cases h0:f=0
  · subst h0
    rw [if_pos rfl]
    obtain ⟨hJ,hL,hI3⟩:=hI rfl
    have hl3:=hL.k
    have h3:=noteAt_fnm g id (by omega)
    generalize ntIx (fun n=>decide (n.Id=id)) g.Notes=ix at *
    clear hu
    by_cases hx:ix<g.Notes.length
    · rw [if_pos hx] at h3 ⊢
      have hni:=hL.n _ (getD_mem hx)
      have h4:=connWritten_fn (g.Notes.getD ix default).Conn lane b true (HI_wf hni.j hni.l (by omega)) hb
      have hW:=fun h=>writeR_I (id:=lane) (b:=b) (fin:=true) hni.j hni.l h
      generalize cnWriteR (g.Notes.getD ix default).Conn lane b true=WW at *
      obtain ⟨wc,we⟩:=WW
      unfold encCnE at h4
      dsimp only at *
      by_cases hwe:we=0
      · subst hwe
        rw [if_pos rfl]
        have hW:=hW rfl
        have h7:=setNote_fn g ix (ntCn (g.Notes.getD ix default) wc) (by omega) hx
        have hn2:∀ y ∈ g.Notes.set ix (ntCn (g.Notes.getD ix default) wc),NI 4194304 y:=fun y hy=>by
          rcases List.mem_or_eq_of_mem_set hy with hy|hy
          · exact hL.n y hy
          · exact hy ▸ hni.cn hW.1 hW.2
        have hJ2:GJ (gtSetN g ix (ntCn (g.Notes.getD ix default) wc)):=⟨hJ.s,hJ.n,hJ.x,hJ.t0,hJ.t1,hJ.t2,hJ.t3,hJ.h⟩
        have hlen2:(g.Notes.set ix (ntCn (g.Notes.getD ix default) wc)).length=g.Notes.length:=List.length_set ..
        unfold gtFl
        generalize hR:ntAll ((gtSetN g ix (ntCn (g.Notes.getD ix default) wc))).Now ((gtSetN g ix (ntCn (g.Notes.getD ix default) wc))).Notes (gtSetN g ix (ntCn (g.Notes.getD ix default) wc)) [] []=R at *
        obtain ⟨G,O,L⟩:=R
        have h5:=flushed_fn (B:=4194304) (gtSetN g ix (ntCn (g.Notes.getD ix default) wc)) _ [] (by omega) hJ2 hn2 rfl (by omega) (by simp) G O L hR
        generalize hZ:encGate (gtNts G L)=Z at h5 ⊢
        unfold encGate gtNts at hZ
        dsimp only at hZ
        subst hZ
        clear hI hI3 hJ hL hni hW hJ2 hn2 hR
        generalize hZ:encNote (ntCn (g.Notes.getD ix default) wc)=Z at h7
        unfold encNote ntCn at hZ
        dsimp only at hZ
        subst hZ
        refine fn_of_run (by kernel_rfl) Tryz.func11 rfl (by kernel_rfl) ?_
        (repeat' first|(refine s_call (h1) (h:=?_))|(refine p_call (h1) (h:=?_))|(refine s_callM [1] (h3) (h:=?_))|(refine p_callM [1] (h3) (h:=?_))|(refine s_call (h4) (h:=?_))|(refine p_call (h4) (h:=?_))|(refine s_call (h5) (h:=?_))|(refine p_call (h5) (h:=?_))|(refine s_call (h7) (h:=?_))|(refine p_call (h7) (h:=?_))|(refine go_ ?_;((repeat' first|exact True.intro|refine Two.mk ?_ ?_);all_goals intros))|fail "")
        all_goals (try dsimp only at *)
        all_goals first
          | (exact endwA_)
          | (exfalso;omega)
          | skip
      · rw [if_neg hwe]
        clear hI hI3 hJ hL hni hW
        refine fn_of_run (by kernel_rfl) Tryz.func11 rfl (by kernel_rfl) ?_
        (repeat' first|(refine s_call (h1) (h:=?_))|(refine p_call (h1) (h:=?_))|(refine s_callM [1] (h3) (h:=?_))|(refine p_callM [1] (h3) (h:=?_))|(refine s_call (h4) (h:=?_))|(refine p_call (h4) (h:=?_))|(refine go_ ?_;((repeat' first|exact True.intro|refine Two.mk ?_ ?_);all_goals intros))|fail "")
        all_goals (try dsimp only at *)
        all_goals first
          | (exact endwA_)
          | (exfalso;omega)
          | skip
    · rw [if_neg hx] at h3 ⊢
      clear hI hI3 hJ hL
      refine fn_of_run (by kernel_rfl) Tryz.func11 rfl (by kernel_rfl) ?_
      (repeat' first|(refine s_call (h1) (h:=?_))|(refine p_call (h1) (h:=?_))|(refine s_callM [1] (h3) (h:=?_))|(refine p_callM [1] (h3) (h:=?_))|(refine go_ ?_;((repeat' first|exact True.intro|refine Two.mk ?_ ?_);all_goals intros))|fail "")
      all_goals (try dsimp only at *)
      all_goals first
        | (exact endwA_)
        | (exfalso;omega)
        | skip
  · rw [if_neg h0]
    clear hI hu
    refine fn_of_run (by kernel_rfl) Tryz.func11 rfl (by kernel_rfl) ?_
    (repeat' first|(refine s_call (h1) (h:=?_))|(refine p_call (h1) (h:=?_))|(refine go_ ?_;((repeat' first|exact True.intro|refine Two.mk ?_ ?_);all_goals intros))|fail "")
    all_goals (try dsimp only at *)
    all_goals first
      | (exact endwA_)
      | (exfalso;omega)
      | skip
end Go.Proofs.YtendheafcbickaaGreat
