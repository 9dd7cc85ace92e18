
import Derived.Test.YtendheafcbickaaGreatGo
import Derived.Test.YtendheafcbickaaGreatClA
import Derived.Test.YtendheafcbickaaGreatMg16
import Derived.Test.YtendheafcbickaaGreatCnX
import Derived.Test.YtendheafcbickaaGreatTkD
set_option linter.unusedVariables false
set_option linter.unusedSimpArgs false
set_option linter.unusedVariables false
namespace Go.Proofs.YtendheafcbickaaGreat
set_option maxRecDepth 100000
attribute [local irreducible] Run RunL QStep GStep Fn Less PL FnM
def encAsk (r:DClient×Int×List (List UInt8)×Int):V:=.tup [.agg (encClient r.1),.lit (.int .i64 r.2.1),.ro (r.2.2.1.map encBs),.lit (.int .i64 r.2.2.2)]
def encTk (r:DClient×List (List UInt8)×Int):V:=.tup [.agg (encClient r.1),.ro (r.2.1.map encBs),.lit (.int .i64 r.2.2)]
set_option maxHeartbeats 8000000 in
theorem clAsk_fn (c:DClient) (now:Int) (b:List UInt8) (hu:U.wfClient c) (hb:b.length≤1048576):Fn Tryz.prog 16 [.agg (encClient c),.lit (.int .i64 now),.ro (b.map encB)] (encAsk (clAskR c now b)):=by
  have hw:=U.wf_leClient c hu
  have h1:=clientCheck_fn c hw
  have hfr:=clFresh_fn c hw
  have hI:=fun h0=>clChk (c:=c) h0 hu
  unfold clAskR encAsk
  generalize clFlt c=f at *
  by_cases h0:f=0
  · subst h0
    rw [if_pos rfl]
    have hI:=hI rfl
    by_cases hn:0≤now∧now≤1099511627776
    · rw [if_pos hn]
      have h2:=connOpen_fn c.Conn hw.2.2.2.2.2.2
      have hO:=fun h=>openR_I hI.j hI.l h
      clear hu hw
      generalize cnOpenR c.Conn=O at *
      obtain ⟨oc,oid,oe⟩:=O
      unfold encCnIE at h2
      dsimp only at *
      by_cases ho:oe=0
      · subst ho
        have hO:=hO rfl
        rw [if_pos rfl]
        have h3:=connWrite_fn oc oid b true (W.wf_leConn _ (HI_wf hO.1 hO.2.1 (by omega))) hb
        have hW:=fun h=>writeR_I (id:=oid) (b:=b) (fin:=true) hO.1 hO.2.1 h
        generalize cnWriteR oc oid b true=WW at *
        obtain ⟨wc,we⟩:=WW
        unfold encCnE at h3
        dsimp only at *
        by_cases hwe:we=0
        · subst hwe
          have hW:=hW rfl
          rw [if_pos rfl]
          have h4:=clFlush_fn (clCn c wc) now (hI.cn hW.1 hW.2) (by omega)
          generalize tolds now 3 (clCn c wc)=T at *
          obtain ⟨tc,tl⟩:=T
          unfold encTold at h4
          generalize hZ:encClient (clCn c wc)=Z at h4
          unfold encClient clCn at hZ
          dsimp only at hZ
          subst hZ
          dsimp only at *
          clear hI hO hW
          refine fn_of_run (by kernel_rfl) Tryz.func16 rfl (by kernel_rfl) ?_
          (repeat' first|(refine s_call (h1) (h:=?_))|(refine p_call (h1) (h:=?_))|(refine s_call (h2) (h:=?_))|(refine p_call (h2) (h:=?_))|(refine s_call (h3) (h:=?_))|(refine p_call (h3) (h:=?_))|(refine s_call (h4) (h:=?_))|(refine p_call (h4) (h:=?_))|(refine go_ ?_;((repeat' first|exact True.intro|refine Two.mk ?_ ?_);all_goals intros))|fail "")
          all_goals (try dsimp only at *)
          all_goals first
            | (exact endwA_)
            | (exfalso;omega)
            | skip
        · rw [if_neg hwe]
          clear hI hO hW
          refine fn_of_run (by kernel_rfl) Tryz.func16 rfl (by kernel_rfl) ?_
          (repeat' first|(refine s_call (h1) (h:=?_))|(refine p_call (h1) (h:=?_))|(refine s_call (h2) (h:=?_))|(refine p_call (h2) (h:=?_))|(refine s_call (h3) (h:=?_))|(refine p_call (h3) (h:=?_))|(refine s_call (hfr) (h:=?_))|(refine p_call (hfr) (h:=?_))|(refine go_ ?_;((repeat' first|exact True.intro|refine Two.mk ?_ ?_);all_goals intros))|fail "")
          all_goals (try dsimp only at *)
          all_goals first
            | (exact endwA_)
            | (exfalso;omega)
            | skip
      · rw [if_neg ho]
        clear hI hO
        refine fn_of_run (by kernel_rfl) Tryz.func16 rfl (by kernel_rfl) ?_
        (repeat' first|(refine s_call (h1) (h:=?_))|(refine p_call (h1) (h:=?_))|(refine s_call (h2) (h:=?_))|(refine p_call (h2) (h:=?_))|(refine s_call (hfr) (h:=?_))|(refine p_call (hfr) (h:=?_))|(refine go_ ?_;((repeat' first|exact True.intro|refine Two.mk ?_ ?_);all_goals intros))|fail "")
        all_goals (try dsimp only at *)
        all_goals first
          | (exact endwA_)
          | (exfalso;omega)
          | skip
    · rw [if_neg hn]
      clear hI hu hw
      refine fn_of_run (by kernel_rfl) Tryz.func16 rfl (by kernel_rfl) ?_
      (repeat' first|(refine s_call (h1) (h:=?_))|(refine p_call (h1) (h:=?_))|(refine go_ ?_;((repeat' first|exact True.intro|refine Two.mk ?_ ?_);all_goals intros))|fail "")
      all_goals (try dsimp only at *)
      all_goals first
        | (exact endwA_)
        | (exfalso;omega)
        | skip
  · rw [if_neg h0]
    clear hI hu hw
    refine fn_of_run (by kernel_rfl) Tryz.func16 rfl (by kernel_rfl) ?_
    (repeat' first|(refine s_call (h1) (h:=?_))|(refine p_call (h1) (h:=?_))|(refine go_ ?_;((repeat' first|exact True.intro|refine Two.mk ?_ ?_);all_goals intros))|fail "")
    all_goals (try dsimp only at *)
    all_goals first
      | (exact endwA_)
      | (exfalso;omega)
      | skip
set_option maxHeartbeats 8000000 in
theorem clAsked_fn (c:DClient) (now:Int) (b:List UInt8) (hu:U.wfClient c) (hb:b.length≤1048576):Fn Tryz.prog 18 [.agg (encClient c),.lit (.int .i64 now),.ro (b.map encB)] (encAsk (clAskR c now b)):=by
  have hw:=U.wf_leClient c hu
  have h1:=clientFault_fn c (W.of_Client _ hu)
  have hfr:=clFresh_fn c hw
  have hI:=fun h0=>clChk (c:=c) h0 hu
  unfold clAskR encAsk
  generalize clFlt c=f at *
  by_cases h0:f=0
  · subst h0
    rw [if_pos rfl]
    have hI:=hI rfl
    by_cases hn:0≤now∧now≤1099511627776
    · rw [if_pos hn]
      have h2:=connOpened_fn c.Conn (HI_wf hI.j hI.l (by omega))
      have hO:=fun h=>openR_I hI.j hI.l h
      clear hu hw
      generalize cnOpenR c.Conn=O at *
      obtain ⟨oc,oid,oe⟩:=O
      unfold encCnIE at h2
      dsimp only at *
      by_cases ho:oe=0
      · subst ho
        have hO:=hO rfl
        rw [if_pos rfl]
        have h3:=connWritten_fn oc oid b true (HI_wf hO.1 hO.2.1 (by omega)) hb
        have hW:=fun h=>writeR_I (id:=oid) (b:=b) (fin:=true) hO.1 hO.2.1 h
        generalize cnWriteR oc oid b true=WW at *
        obtain ⟨wc,we⟩:=WW
        unfold encCnE at h3
        dsimp only at *
        by_cases hwe:we=0
        · subst hwe
          have hW:=hW rfl
          rw [if_pos rfl]
          have h4:=clTold_fn (clCn c wc) now (hI.cn hW.1 hW.2) (by omega)
          generalize tolds now 3 (clCn c wc)=T at *
          obtain ⟨tc,tl⟩:=T
          unfold encTold at h4
          generalize hZ:encClient (clCn c wc)=Z at h4
          unfold encClient clCn at hZ
          dsimp only at hZ
          subst hZ
          dsimp only at *
          clear hI hO hW
          refine fn_of_run (by kernel_rfl) Tryz.func18 rfl (by kernel_rfl) ?_
          (repeat' first|(refine s_call (h1) (h:=?_))|(refine p_call (h1) (h:=?_))|(refine s_call (h2) (h:=?_))|(refine p_call (h2) (h:=?_))|(refine s_call (h3) (h:=?_))|(refine p_call (h3) (h:=?_))|(refine s_call (h4) (h:=?_))|(refine p_call (h4) (h:=?_))|(refine s_dec (upTo_fn _ _) (ht:=?_) (hff:=?_) <;> intro _ <;> try (exfalso;omega))|(refine p_dec (upTo_fn _ _) (ht:=?_) (hff:=?_) <;> intro _ <;> try (exfalso;omega))|(refine go_ ?_;((repeat' first|exact True.intro|refine Two.mk ?_ ?_);all_goals intros))|fail "")
          all_goals (try dsimp only at *)
          all_goals first
            | (exact endwA_)
            | (exfalso;omega)
            | skip
        · rw [if_neg hwe]
          clear hI hO hW
          refine fn_of_run (by kernel_rfl) Tryz.func18 rfl (by kernel_rfl) ?_
          (repeat' first|(refine s_call (h1) (h:=?_))|(refine p_call (h1) (h:=?_))|(refine s_call (h2) (h:=?_))|(refine p_call (h2) (h:=?_))|(refine s_call (h3) (h:=?_))|(refine p_call (h3) (h:=?_))|(refine s_dec (upTo_fn _ _) (ht:=?_) (hff:=?_) <;> intro _ <;> try (exfalso;omega))|(refine p_dec (upTo_fn _ _) (ht:=?_) (hff:=?_) <;> intro _ <;> try (exfalso;omega))|(refine go_ ?_;((repeat' first|exact True.intro|refine Two.mk ?_ ?_);all_goals intros))|fail "")
          all_goals (try dsimp only at *)
          all_goals first
            | (exact endwA_)
            | (exfalso;omega)
            | skip
      · rw [if_neg ho]
        clear hI hO
        refine fn_of_run (by kernel_rfl) Tryz.func18 rfl (by kernel_rfl) ?_
        (repeat' first|(refine s_call (h1) (h:=?_))|(refine p_call (h1) (h:=?_))|(refine s_call (h2) (h:=?_))|(refine p_call (h2) (h:=?_))|(refine s_dec (upTo_fn _ _) (ht:=?_) (hff:=?_) <;> intro _ <;> try (exfalso;omega))|(refine p_dec (upTo_fn _ _) (ht:=?_) (hff:=?_) <;> intro _ <;> try (exfalso;omega))|(refine go_ ?_;((repeat' first|exact True.intro|refine Two.mk ?_ ?_);all_goals intros))|fail "")
        all_goals (try dsimp only at *)
        all_goals first
          | (exact endwA_)
          | (exfalso;omega)
          | skip
    · rw [if_neg hn]
      clear hI hu hw
      refine fn_of_run (by kernel_rfl) Tryz.func18 rfl (by kernel_rfl) ?_
      (repeat' first|(refine s_call (h1) (h:=?_))|(refine p_call (h1) (h:=?_))|(refine s_dec (upTo_fn _ _) (ht:=?_) (hff:=?_) <;> intro _ <;> try (exfalso;omega))|(refine p_dec (upTo_fn _ _) (ht:=?_) (hff:=?_) <;> intro _ <;> try (exfalso;omega))|(refine go_ ?_;((repeat' first|exact True.intro|refine Two.mk ?_ ?_);all_goals intros))|fail "")
      all_goals (try dsimp only at *)
      all_goals first
        | (exact endwA_)
        | (exfalso;omega)
        | skip
  · rw [if_neg h0]
    clear hI hu hw
    refine fn_of_run (by kernel_rfl) Tryz.func18 rfl (by kernel_rfl) ?_
    (repeat' first|(refine s_call (h1) (h:=?_))|(refine p_call (h1) (h:=?_))|(refine go_ ?_;((repeat' first|exact True.intro|refine Two.mk ?_ ?_);all_goals intros))|fail "")
    all_goals (try dsimp only at *)
    all_goals first
      | (exact endwA_)
      | (exfalso;omega)
      | skip
set_option maxHeartbeats 8000000 in
theorem clTick_fn (c:DClient) (now:Int) (hu:U.wfClient c):Fn Tryz.prog 17 [.agg (encClient c),.lit (.int .i64 now)] (encTk (clTickR c now)):=by
  have hw:=U.wf_leClient c hu
  have h1:=clientCheck_fn c hw
  have hI:=fun h0=>clChk (c:=c) h0 hu
  unfold clTickR encTk
  generalize clFlt c=f at *
  by_cases h0:f=0
  · subst h0
    rw [if_pos rfl]
    have hI:=hI rfl
    have h2:=connTick_fn c.Conn now (HI_wf hI.j hI.l (by omega))
    have hO:=fun h=>tickR_I (now:=now) hI.j hI.l h
    clear hu hw
    generalize tickR c.Conn now=O at *
    obtain ⟨oc,oe⟩:=O
    unfold encCnE at h2
    dsimp only at *
    by_cases ho:oe=0
    · subst ho
      have hO:=hO rfl
      rw [if_pos rfl]
      have h4:=clFlush_fn (clCn c oc) now (hI.cn hO.1 hO.2) (by omega)
      generalize tolds now 3 (clCn c oc)=T at *
      obtain ⟨tc,tl⟩:=T
      unfold encTold at h4
      generalize hZ:encClient (clCn c oc)=Z at h4
      unfold encClient clCn at hZ
      dsimp only at hZ
      subst hZ
      dsimp only at *
      clear hI hO
      refine fn_of_run (by kernel_rfl) Tryz.func17 rfl (by kernel_rfl) ?_
      (repeat' first|(refine s_call (h1) (h:=?_))|(refine p_call (h1) (h:=?_))|(refine s_call (h2) (h:=?_))|(refine p_call (h2) (h:=?_))|(refine s_call (h4) (h:=?_))|(refine p_call (h4) (h:=?_))|(refine go_ ?_;((repeat' first|exact True.intro|refine Two.mk ?_ ?_);all_goals intros))|fail "")
      all_goals (try dsimp only at *)
      all_goals first
        | (exact endwA_)
        | (exfalso;omega)
        | skip
    · rw [if_neg ho]
      clear hI hO
      refine fn_of_run (by kernel_rfl) Tryz.func17 rfl (by kernel_rfl) ?_
      (repeat' first|(refine s_call (h1) (h:=?_))|(refine p_call (h1) (h:=?_))|(refine s_call (h2) (h:=?_))|(refine p_call (h2) (h:=?_))|(refine go_ ?_;((repeat' first|exact True.intro|refine Two.mk ?_ ?_);all_goals intros))|fail "")
      all_goals (try dsimp only at *)
      all_goals first
        | (exact endwA_)
        | (exfalso;omega)
        | skip
  · rw [if_neg h0]
    clear hI hu hw
    refine fn_of_run (by kernel_rfl) Tryz.func17 rfl (by kernel_rfl) ?_
    (repeat' first|(refine s_call (h1) (h:=?_))|(refine p_call (h1) (h:=?_))|(refine go_ ?_;((repeat' first|exact True.intro|refine Two.mk ?_ ?_);all_goals intros))|fail "")
    all_goals (try dsimp only at *)
    all_goals first
      | (exact endwA_)
      | (exfalso;omega)
      | skip
set_option maxHeartbeats 8000000 in
theorem clTicked_fn (c:DClient) (now:Int) (hu:U.wfClient c):Fn Tryz.prog 19 [.agg (encClient c),.lit (.int .i64 now)] (encTk (clTickR c now)):=by
  have hw:=U.wf_leClient c hu
  have h1:=clientFault_fn c (W.of_Client _ hu)
  have hI:=fun h0=>clChk (c:=c) h0 hu
  unfold clTickR encTk
  generalize clFlt c=f at *
  by_cases h0:f=0
  · subst h0
    rw [if_pos rfl]
    have hI:=hI rfl
    have h2:=connTicked_fn c.Conn now (HI_wf hI.j hI.l (by omega))
    have hO:=fun h=>tickR_I (now:=now) hI.j hI.l h
    clear hu hw
    generalize tickR c.Conn now=O at *
    obtain ⟨oc,oe⟩:=O
    unfold encCnE at h2
    dsimp only at *
    by_cases ho:oe=0
    · subst ho
      have hO:=hO rfl
      rw [if_pos rfl]
      have h4:=clTold_fn (clCn c oc) now (hI.cn hO.1 hO.2) (by omega)
      generalize tolds now 3 (clCn c oc)=T at *
      obtain ⟨tc,tl⟩:=T
      unfold encTold at h4
      generalize hZ:encClient (clCn c oc)=Z at h4
      unfold encClient clCn at hZ
      dsimp only at hZ
      subst hZ
      dsimp only at *
      clear hI hO
      refine fn_of_run (by kernel_rfl) Tryz.func19 rfl (by kernel_rfl) ?_
      (repeat' first|(refine s_call (h1) (h:=?_))|(refine p_call (h1) (h:=?_))|(refine s_call (h2) (h:=?_))|(refine p_call (h2) (h:=?_))|(refine s_call (h4) (h:=?_))|(refine p_call (h4) (h:=?_))|(refine go_ ?_;((repeat' first|exact True.intro|refine Two.mk ?_ ?_);all_goals intros))|fail "")
      all_goals (try dsimp only at *)
      all_goals first
        | (exact endwA_)
        | (exfalso;omega)
        | skip
    · rw [if_neg ho]
      clear hI hO
      refine fn_of_run (by kernel_rfl) Tryz.func19 rfl (by kernel_rfl) ?_
      (repeat' first|(refine s_call (h1) (h:=?_))|(refine p_call (h1) (h:=?_))|(refine s_call (h2) (h:=?_))|(refine p_call (h2) (h:=?_))|(refine go_ ?_;((repeat' first|exact True.intro|refine Two.mk ?_ ?_);all_goals intros))|fail "")
      all_goals (try dsimp only at *)
      all_goals first
        | (exact endwA_)
        | (exfalso;omega)
        | skip
  · rw [if_neg h0]
    clear hI hu hw
    refine fn_of_run (by kernel_rfl) Tryz.func19 rfl (by kernel_rfl) ?_
    (repeat' first|(refine s_call (h1) (h:=?_))|(refine p_call (h1) (h:=?_))|(refine go_ ?_;((repeat' first|exact True.intro|refine Two.mk ?_ ?_);all_goals intros))|fail "")
    all_goals (try dsimp only at *)
    all_goals first
      | (exact endwA_)
      | (exfalso;omega)
      | skip
end Go.Proofs.YtendheafcbickaaGreat
