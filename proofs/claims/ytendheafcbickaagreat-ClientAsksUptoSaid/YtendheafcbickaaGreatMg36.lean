/-
  SEVERAL TEXTS IN ONE: each with its own comment.
-/
import Derived.Test.YtendheafcbickaaGreatZip
import Derived.Test.YtendheafcbickaaGreatGo
import Derived.Test.YtendheafcbickaaGreatSndR
import Derived.Test.YtendheafcbickaaGreatMg22
import Derived.Test.YtendheafcbickaaGreatMg20
import Derived.Test.YtendheafcbickaaGreatMg08
import Derived.Test.YtendheafcbickaaGreatMg07
import Derived.Test.YtendheafcbickaaGreatMg12

set_option linter.unusedVariables false
set_option linter.unusedSimpArgs false
set_option linter.unusedVariables false
namespace Go.Proofs.YtendheafcbickaaGreat
set_option maxRecDepth 100000
attribute [local irreducible] Run RunL QStep GStep Fn Less PL FnM
set_option maxHeartbeats 8000000 in
theorem senderPieceRef_fn (s:DSender) (room credit:Int) (hw:U.wfSender s) (hr:I64 room) (hc:I64 credit):Fn Tryz.prog 222 [.agg (encSender s),.lit (.int .i64 room),.lit (.int .i64 credit)] (encPc (pcR s room credit)):=by
  have h1:=senderFault_fn s hw
  have h3:=fun r a b=>without_fn s.Lost r a b (by have:=hw.2.2.2.1;omega)
  clear hw
  unfold I64 at hr hc
  unfold pcR encPc
  rcases sndFlt_cases s with ⟨h0,hok⟩ | ⟨h0,hbad⟩
  · rw [h0] at h1
    rw [if_neg (by omega)]
    clear h0
    by_cases hq:0≤room∧room≤120∧0≤credit
    · rw [if_neg (fun h=>h hq)]
      obtain ⟨⟨f1,f2,f3,f4,f5⟩,f6,f7,g1,g2,g3⟩:=pc_facts hok hq
      clear hok
      refine fn_of_run (by kernel_rfl) Tryz.func222 rfl (by kernel_rfl) ?_
      (repeat' first|(refine s_call (h1) (h:=?_))|(refine p_call (h1) (h:=?_))|(refine s_dec (upTo_fn _ _) (ht:=?_) (hff:=?_) <;> intro _ <;> try (exfalso;omega))|(refine p_dec (upTo_fn _ _) (ht:=?_) (hff:=?_) <;> intro _ <;> try (exfalso;omega))|(refine goU_ 6 ?_;((repeat' first|exact True.intro|refine Two.mk ?_ ?_);all_goals intros))|fail "")
      generalize hlo:pcLo s room=lo at *
      generalize hnn:pcN s room credit=n at *
      refine r_cut (fun _:Unit=>⟨[(1,.lit (.int .i64 room)),(2,.lit (.int .i64 credit)),(3,.ptr 0 0 0 0),(6,.ptr 1 0 0 0),(7,.ptr 2 0 0 0),(11,.lit (.int .i64 s.Next)),(12,.lit (.int .i64 0))],[(0,some (.box 132 (encSender s))),(1,some (.box 132 [.lit (.slice none 0 0),.lit (.bool false),.lit (.int .i64 0),.lit (.int .i64 0),.lit (.slice none 0 0),.lit (.slice none 0 0),.lit (.bool false),.lit (.bool false)])),(2,some (.box 111 [.lit (.int .i64 0),.lit (.int .i64 0),.lit (.int .i64 0),.lit (.bool false),.lit (.int .i64 0),.lit (.slice none 0 0),.lit (.slice none 0 0)]))],3,Tryz.f222.ntmps⟩) (fun _=>True) ?_ ?_
      · (repeat' first|(refine go_ ?_;((repeat' first|exact True.intro|refine Two.mk ?_ ?_);all_goals intros))|fail "")
        all_goals first
          | (refine ⟨(),?_,?_⟩;rotate_left 1;(exact lessA_);(exact Z68_))
          | skip
      rintro _ _
      refine r_cut (fun x:Int×Int=>⟨[(3,.ptr 0 0 0 0),(6,.ptr 1 0 0 0),(7,.ptr 2 0 0 0),(11,.lit (.int .i64 x.1)),(12,.lit (.int .i64 x.2))],[(0,some (.box 132 (encSender s))),(1,some (.box 132 [.lit (.slice none 0 0),.lit (.bool false),.lit (.int .i64 0),.lit (.int .i64 0),.lit (.slice none 0 0),.lit (.slice none 0 0),.lit (.bool false),.lit (.bool false)])),(2,some (.box 111 [.lit (.int .i64 0),.lit (.int .i64 0),.lit (.int .i64 0),.lit (.bool false),.lit (.int .i64 0),.lit (.slice none 0 0),.lit (.slice none 0 0)]))],3,Tryz.f222.ntmps⟩) (fun x=>x=(lo,n)) ?_ ?_
      · unfold pcLo at hlo
        unfold pcN at hnn
        by_cases hp:0<s.Lost.length
        · by_cases hp2:0<room
          · rw [if_pos ⟨hp,hp2⟩] at hlo hnn
            have:=f7 hp
            (repeat' first|(refine go_ ?_;((repeat' first|exact True.intro|refine Two.mk ?_ ?_);all_goals intros))|fail "")
            all_goals first
              | (refine ⟨((s.Lost.getD 0 default).Lo,min room ((s.Lost.getD 0 default).Hi - (s.Lost.getD 0 default).Lo+1)),?_,?_⟩;rotate_left 1;(exact lessA_);(focus (exact Prod.ext hlo hnn)))
              | skip
          · rw [if_neg (fun h=>hp2 h.2)] at hlo hnn
            (repeat' first|refine s_i (hq:=q_min4 rfl rfl rfl rfl rfl) (h:=?_)|refine p_i (hq:=fun _=>q_min4 rfl rfl rfl rfl rfl) (h:=?_)|(refine goI_ ?_;((repeat' first|exact True.intro|refine Two.mk ?_ ?_);all_goals intros))|refine s_i (h:=?_)|refine s_i (hq:=q_index_ro rfl rfl rfl (by first|exact lit0|exact lit1|exact lit2|rfl) (by simp only [List.length_cons,List.length_nil];omega) rfl rfl rfl rfl) (h:=?_)|refine p_i (h:=?_)|refine p_ih (h:=?_)|refine s_lit (h:=?_)|refine p_lit (h:=?_)|refine p_lit0 (h:=?_)|refine s_lit0 (h:=?_)|refine s_ixa (h:=?_)|refine s_insert (h:=?_)|((first|refine s_sadd rfl ?_ (h:=?_)|refine p_sadd rfl ?_ (h:=?_));(exact Z9_))|fail "")
            all_goals first
              | (refine ⟨(s.Next,min (min room credit) (min (s.Data.length - s.Next) (s.Max - s.Next))),?_,?_⟩;rotate_left 1;(exact lessA_);(focus (exact Prod.ext hlo hnn)))
              | skip
        · rw [if_neg (fun h=>hp h.1)] at hlo hnn
          (repeat' first|refine s_i (hq:=q_min4 rfl rfl rfl rfl rfl) (h:=?_)|refine p_i (hq:=fun _=>q_min4 rfl rfl rfl rfl rfl) (h:=?_)|(refine goI_ ?_;((repeat' first|exact True.intro|refine Two.mk ?_ ?_);all_goals intros))|refine s_i (h:=?_)|refine s_i (hq:=q_index_ro rfl rfl rfl (by first|exact lit0|exact lit1|exact lit2|rfl) (by simp only [List.length_cons,List.length_nil];omega) rfl rfl rfl rfl) (h:=?_)|refine p_i (h:=?_)|refine p_ih (h:=?_)|refine s_lit (h:=?_)|refine p_lit (h:=?_)|refine p_lit0 (h:=?_)|refine s_lit0 (h:=?_)|refine s_ixa (h:=?_)|refine s_insert (h:=?_)|((first|refine s_sadd rfl ?_ (h:=?_)|refine p_sadd rfl ?_ (h:=?_));(exact Z9_))|fail "")
          all_goals first
            | (refine ⟨(s.Next,min (min room credit) (min (s.Data.length - s.Next) (s.Max - s.Next))),?_,?_⟩;rotate_left 1;(exact lessA_);(focus (exact Prod.ext hlo hnn)))
            | skip
      rintro _ rfl
      dsimp only
      clear f7 hlo hnn h1 hr hc hq
      generalize hfn:pcFin s lo n=fin
      refine r_cut (fun b:Bool=>⟨[(3,.ptr 0 0 0 0),(6,.ptr 1 0 0 0),(7,.ptr 2 0 0 0),(11,.lit (.int .i64 lo)),(12,.lit (.int .i64 n)),(13,.lit (.bool b))],[(0,some (.box 132 (encSender s))),(1,some (.box 132 [.lit (.slice none 0 0),.lit (.bool false),.lit (.int .i64 0),.lit (.int .i64 0),.lit (.slice none 0 0),.lit (.slice none 0 0),.lit (.bool false),.lit (.bool false)])),(2,some (.box 111 [.lit (.int .i64 0),.lit (.int .i64 0),.lit (.int .i64 0),.lit (.bool false),.lit (.int .i64 0),.lit (.slice none 0 0),.lit (.slice none 0 0)]))],3,Tryz.f222.ntmps⟩) (fun b=>b=fin) ?_ ?_
      · clear h3
        unfold pcFin at hfn
        obtain ⟨data,f0,next,mx,lost,acked,en,ov⟩:=s
        dsimp only [encSender] at *
        by_cases he:lo+n=data.length
        · rw [decide_eq_true he] at hfn
          cases f0 <;> cases en <;> cases ov <;> subst hfn
          all_goals (repeat' first|(refine go_ ?_;((repeat' first|exact True.intro|refine Two.mk ?_ ?_);all_goals intros))|fail "")
          all_goals first
            | (refine ⟨true,?_,?_⟩;rotate_left 1;(exact lessA_);(focus (rfl)))
            | (refine ⟨false,?_,?_⟩;rotate_left 1;(exact lessA_);(focus (rfl)))
            | skip
        · rw [decide_eq_false he] at hfn
          cases f0 <;> cases en <;> cases ov <;> subst hfn
          all_goals (repeat' first|(refine go_ ?_;((repeat' first|exact True.intro|refine Two.mk ?_ ?_);all_goals intros))|fail "")
          all_goals first
            | (refine ⟨false,?_,?_⟩;rotate_left 1;(exact lessA_);(focus (rfl)))
            | skip
      rintro b rfl
      clear hfn
      obtain ⟨lo,rfl⟩:=Int.eq_ofNat_of_zero_le g1
      obtain ⟨n,rfl⟩:=Int.eq_ofNat_of_zero_le g2
      unfold pcDo
      rw [Int.toNat_natCast,show ((lo:Int)+(n:Int)).toNat=lo+n by omega]
      obtain ⟨data,f0,next,mx,lost,acked,en,ov⟩:=s
      dsimp only [encSender] at *
      by_cases hn:n=0
      · subst hn
        clear h3
        cases b
        · rw [if_pos ⟨rfl,rfl⟩]
          (repeat' first|(refine go_ ?_;((repeat' first|exact True.intro|refine Two.mk ?_ ?_);all_goals intros))|fail "")
          all_goals first
            | (exact endwA_)
            | skip
        · rw [if_neg (fun h=>by cases h.2),if_neg (by omega)]
          rw [show List.drop lo (List.take (lo+0) data)=([]:List UInt8) by simp]
          cases en
          all_goals (repeat' first|(refine s_slice (r:=([]:List UInt8)) (lo) (lo+0) ?_ ?_ ?_ ?_ ?_ (h:=?_);(exact Z34_);(exact Z34_);(focus omega);(focus omega);(exact Z50_))|(refine p_slice (r:=([]:List UInt8)) (lo) (lo+0) ?_ ?_ ?_ ?_ ?_ (h:=?_);(exact Z34_);(exact Z34_);(focus omega);(focus omega);(exact Z50_))|(refine go_ ?_;((repeat' first|exact True.intro|refine Two.mk ?_ ?_);all_goals intros))|fail "")
          all_goals first
            | (exact endwA_)
            | skip
      · have h3:=h3 ⟨lo,(lo:Int)+n - 1⟩ f6 (by unfold rGood;dsimp only;omega)
        rw [if_neg (fun h=>hn (by omega)),if_pos (by omega)]
        generalize hdt:List.drop lo (List.take (lo+n) data)=dt
        have hdl:dt.length=n:=by rw [← hdt];simp;omega
        cases b <;> cases en
        all_goals (repeat' first|(refine s_call (h3) (h:=?_))|(refine p_call (h3) (h:=?_))|(refine s_slice (r:=dt) (lo) (lo+n) ?_ ?_ ?_ ?_ ?_ (h:=?_);(exact Z34_);(exact Z34_);(focus omega);(focus omega);(exact Z50_))|(refine p_slice (r:=dt) (lo) (lo+n) ?_ ?_ ?_ ?_ ?_ (h:=?_);(exact Z34_);(exact Z34_);(focus omega);(focus omega);(exact Z50_))|(refine go_ ?_;((repeat' first|exact True.intro|refine Two.mk ?_ ?_);all_goals intros))|fail "")
        all_goals first
          | (exact endwA_)
          | skip
    · rw [if_pos hq]
      clear h3 hok
      refine fn_of_run (by kernel_rfl) Tryz.func222 rfl (by kernel_rfl) ?_
      (repeat' first|(refine s_call (h1) (h:=?_))|(refine p_call (h1) (h:=?_))|(refine s_dec (upTo_fn _ _) (ht:=?_) (hff:=?_) <;> intro _ <;> try (exfalso;omega))|(refine p_dec (upTo_fn _ _) (ht:=?_) (hff:=?_) <;> intro _ <;> try (exfalso;omega))|(refine go_ ?_;((repeat' first|exact True.intro|refine Two.mk ?_ ?_);all_goals intros))|fail "")
      all_goals first
        | (exact endwA_)
        | skip
  · rw [h0] at h1 ⊢
    rw [if_pos (by decide)]
    clear h3
    refine fn_of_run (by kernel_rfl) Tryz.func222 rfl (by kernel_rfl) ?_
    (repeat' first|(refine s_call (h1) (h:=?_))|(refine p_call (h1) (h:=?_))|(refine go_ ?_;((repeat' first|exact True.intro|refine Two.mk ?_ ?_);all_goals intros))|fail "")
    all_goals first
      | (exact endwA_)
      | skip
theorem rCut_len600 {l:List DRange} (hs:rSet (-2) l) {r:DRange} (hr:rGood r) {m:Nat} (h:l.length≤m):(rCut l r).length≤m+1:=by
  have:=rCut_len hr hs
  omega
end Go.Proofs.YtendheafcbickaaGreat


set_option linter.unusedVariables false
set_option linter.unusedSimpArgs false
set_option linter.unusedVariables false
namespace Go.Proofs.YtendheafcbickaaGreat
set_option maxRecDepth 100000
attribute [local irreducible] Run RunL QStep GStep Fn Less PL FnM
def spZero:DSpace:=⟨0,[],0,[],[]⟩
noncomputable def spLeap (s:DSpace):DSpace×Int:=if spFlt s≠0 then (spZero,spFlt s) else if s.Next=4611686018427387903 then (spZero,8) else (⟨s.Next+1,s.Sent,s.Top,s.Heard,(s.Skip++[s.Next]).drop (s.Skip.length+1 - 6)⟩,0)
noncomputable def spQuiet (s:DSpace):DSpace×Int×Int:=if spFlt s≠0 then (spZero,0,spFlt s) else if s.Next=4611686018427387903 then (spZero,0,8) else (⟨s.Next+1,s.Sent,s.Top,s.Heard,s.Skip⟩,s.Next,0)
set_option maxHeartbeats 1000000 in
theorem quiet_fn (s:DSpace) (hw:wfSpace s):Fn Tryz.prog 212 [.agg (encSpace s)] (.tup [.agg (encSpace (spQuiet s).1),.lit (.int .i64 (spQuiet s).2.1),.lit (.int .i64 (spQuiet s).2.2)]):=by
  have h1:=spaceCheck_fn s hw
  unfold spQuiet
  rcases spFlt_cases s with ⟨h0,ho⟩ | ⟨h0,ho⟩
  · rw [h0] at h1 ⊢
    rw [if_neg (by omega)]
    have hh:=ho.1.1
    unfold spHead at hh
    have h2:=fresh_fnm s hw
    by_cases c1:s.Next=4611686018427387903
    · rw [if_pos c1]
      refine fn_of_run (by kernel_rfl) Tryz.func212 rfl (by kernel_rfl) ?_
      (repeat' first|(refine s_call (h1) (h:=?_))|(refine p_call (h1) (h:=?_))|(refine go_ ?_;((repeat' first|exact True.intro|refine Two.mk ?_ ?_);all_goals intros))|fail "")
      all_goals (exact endwA_)
    · rw [if_neg c1]
      refine fn_of_run (by kernel_rfl) Tryz.func212 rfl (by kernel_rfl) ?_
      (repeat' first|(refine s_call (h1) (h:=?_))|(refine p_call (h1) (h:=?_))|(refine s_callM [] (h2) (h:=?_))|(refine go_ ?_;((repeat' first|exact True.intro|refine Two.mk ?_ ?_);all_goals intros))|fail "")
      all_goals (exact endwA_)
  · rw [h0] at h1 ⊢
    rw [if_pos (by omega)]
    refine fn_of_run (by kernel_rfl) Tryz.func212 rfl (by kernel_rfl) ?_
    (repeat' first|(refine s_call (h1) (h:=?_))|(refine p_call (h1) (h:=?_))|(refine go_ ?_;((repeat' first|exact True.intro|refine Two.mk ?_ ?_);all_goals intros))|fail "")
    all_goals (exact endwA_)
set_option maxHeartbeats 1000000 in
theorem quietRef_fn (s:DSpace) (hw:wfSpace s):Fn Tryz.prog 281 [.agg (encSpace s)] (.tup [.agg (encSpace (spQuiet s).1),.lit (.int .i64 (spQuiet s).2.1),.lit (.int .i64 (spQuiet s).2.2)]):=by
  have h1:=spaceFault_fn s hw
  unfold spQuiet
  rcases spFlt_cases s with ⟨h0,ho⟩ | ⟨h0,ho⟩
  · rw [h0] at h1 ⊢
    rw [if_neg (by omega)]
    have hh:=ho.1.1
    unfold spHead at hh
    by_cases c1:s.Next=4611686018427387903
    · rw [if_pos c1]
      refine fn_of_run (by kernel_rfl) Tryz.func281 rfl (by kernel_rfl) ?_
      (repeat' first|(refine s_call (h1) (h:=?_))|(refine p_call (h1) (h:=?_))|(refine go_ ?_;((repeat' first|exact True.intro|refine Two.mk ?_ ?_);all_goals intros))|fail "")
      all_goals (exact endwA_)
    · rw [if_neg c1]
      refine fn_of_run (by kernel_rfl) Tryz.func281 rfl (by kernel_rfl) ?_
      (repeat' first|(refine s_call (h1) (h:=?_))|(refine p_call (h1) (h:=?_))|(refine go_ ?_;((repeat' first|exact True.intro|refine Two.mk ?_ ?_);all_goals intros))|fail "")
      all_goals (exact endwA_)
  · rw [h0] at h1 ⊢
    rw [if_pos (by omega)]
    refine fn_of_run (by kernel_rfl) Tryz.func281 rfl (by kernel_rfl) ?_
    (repeat' first|(refine s_call (h1) (h:=?_))|(refine p_call (h1) (h:=?_))|(refine go_ ?_;((repeat' first|exact True.intro|refine Two.mk ?_ ?_);all_goals intros))|fail "")
    all_goals (exact endwA_)
theorem spQuiet_wf (s:DSpace) (hw:wfSpace s):wfSpace (spQuiet s).1:=by
  have hz:wfSpace spZero:=by unfold wfSpace spZero I64;simp
  unfold spQuiet
  rcases spFlt_cases s with ⟨h0,ho⟩ | ⟨h0,ho⟩
  · rw [h0,if_neg (by omega)]
    split
    · exact hz
    · have hh:=ho.1.1
      unfold spHead at hh
      exact ⟨by unfold I64;dsimp only;omega,hw.2⟩
  · rw [h0,if_pos (by omega)];exact hz
end Go.Proofs.YtendheafcbickaaGreat


set_option linter.unusedVariables false
set_option linter.unusedSimpArgs false
set_option linter.unusedVariables false
namespace Go.Proofs.YtendheafcbickaaGreat
set_option maxRecDepth 100000
attribute [local irreducible] Run RunL QStep GStep Fn Less PL FnM
def sdBad (now size:Int):Prop:=¬ (0≤now∧now≤1099511627776∧0≤size∧size≤400)
def sdFull (s:DSpace):Prop:=s.Sent.length=24∨s.Next=4611686018427387903
instance (now size:Int):Decidable (sdBad now size):=inferInstanceAs (Decidable (¬ _))
instance (s:DSpace):Decidable (sdFull s):=inferInstanceAs (Decidable (_∨_))
noncomputable def spSend (s:DSpace) (now size:Int) (l:List DFrame):DSpace×Int×Int:=
  if spFlt s≠0 then (⟨0,[],0,[],[]⟩,0,spFlt s) else if sdBad now size then (⟨0,[],0,[],[]⟩,0,6) else if sdFull s then (⟨0,[],0,[],[]⟩,0,8)
  else (⟨s.Next+1,s.Sent++[⟨s.Next,now,size,l⟩],s.Top,s.Heard,s.Skip⟩,s.Next,0)
set_option maxHeartbeats 1000000 in
theorem send_fn (s:DSpace) (now size:Int) (l:List DFrame) (hw:wfSpace s) (hl:l.length * 88≤140737488351232) (hf:∀ y,y ∈ l→wfFrame y):Fn Tryz.prog 211 [.agg (encSpace s),.lit (.int .i64 now),.lit (.int .i64 size),.ro (l.map encFrame)] (.tup [.agg (encSpace (spSend s now size l).1),.lit (.int .i64 (spSend s now size l).2.1),.lit (.int .i64 (spSend s now size l).2.2)]):=by
  have h1:=spaceCheck_fn s hw
  have h3:=frames_fn l hf hl
  unfold spSend
  rcases spFlt_cases s with ⟨h0,ho⟩ | ⟨h0,ho⟩
  · rw [h0] at h1 ⊢
    rw [if_neg (by omega)]
    have hh:=ho.1.1
    unfold spHead at hh
    have h2:=fresh_fnm s hw
    by_cases c1:sdBad now size
    · rw [if_pos c1]
      unfold sdBad at c1
      refine fn_of_run (by kernel_rfl) Tryz.func211 rfl (by kernel_rfl) ?_
      (repeat' first|(refine s_call (h1) (h:=?_))|(refine p_call (h1) (h:=?_))|(refine go_ ?_;((repeat' first|exact True.intro|refine Two.mk ?_ ?_);all_goals intros))|fail "")
      all_goals (exact endwA_)
    · rw [if_neg c1]
      unfold sdBad at c1
      by_cases c2:sdFull s
      · rw [if_pos c2]
        unfold sdFull at c2
        refine fn_of_run (by kernel_rfl) Tryz.func211 rfl (by kernel_rfl) ?_
        (repeat' first|(refine s_call (h1) (h:=?_))|(refine p_call (h1) (h:=?_))|(refine go_ ?_;((repeat' first|exact True.intro|refine Two.mk ?_ ?_);all_goals intros))|fail "")
        all_goals (exact endwA_)
      · rw [if_neg c2]
        unfold sdFull at c2
        refine fn_of_run (by kernel_rfl) Tryz.func211 rfl (by kernel_rfl) ?_
        (repeat' first|(refine s_call (h1) (h:=?_))|(refine p_call (h1) (h:=?_))|(refine s_call (h3) (h:=?_))|(refine p_call (h3) (h:=?_))|(refine s_callM [] (h2) (h:=?_))|(refine s_app (r:=(s.Sent++[DParcel.mk s.Next now size l]).map encParcel) ?_ ?_ ?_ ?_ (h:=?_);(exact Z65_);(exact Z42_);(exact Z10_);(exact Z21_))|(refine s_app0R (r:=(s.Sent++[DParcel.mk s.Next now size l]).map encParcel) ?_ ?_ ?_ ?_ (h:=?_);(exact Z65_);(exact Z42_);(exact Z10_);(exact Z21_))|(refine p_app (r:=(s.Sent++[DParcel.mk s.Next now size l]).map encParcel) ?_ ?_ ?_ ?_ (h:=?_);(exact Z65_);(exact Z42_);(exact Z10_);(exact Z21_))|(refine go_ ?_;((repeat' first|exact True.intro|refine Two.mk ?_ ?_);all_goals intros))|fail "")
        all_goals (exact endwA_)
  · rw [h0] at h1 ⊢
    rw [if_pos (by omega)]
    refine fn_of_run (by kernel_rfl) Tryz.func211 rfl (by kernel_rfl) ?_
    (repeat' first|(refine s_call (h1) (h:=?_))|(refine p_call (h1) (h:=?_))|(refine go_ ?_;((repeat' first|exact True.intro|refine Two.mk ?_ ?_);all_goals intros))|fail "")
    all_goals (exact endwA_)
set_option maxHeartbeats 1000000 in
theorem sent_fn (s:DSpace) (now size:Int) (l:List DFrame) (hw:wfSpace s):Fn Tryz.prog 224 [.agg (encSpace s),.lit (.int .i64 now),.lit (.int .i64 size),.ro (l.map encFrame)] (.tup [.agg (encSpace (spSend s now size l).1),.lit (.int .i64 (spSend s now size l).2.1),.lit (.int .i64 (spSend s now size l).2.2)]):=by
  have h1:=spaceFault_fn s hw
  unfold spSend
  rcases spFlt_cases s with ⟨h0,ho⟩ | ⟨h0,ho⟩
  · rw [h0] at h1 ⊢
    rw [if_neg (by omega)]
    have hh:=ho.1.1
    unfold spHead at hh
    by_cases c1:sdBad now size
    · rw [if_pos c1]
      unfold sdBad at c1
      refine fn_of_run (by kernel_rfl) Tryz.func224 rfl (by kernel_rfl) ?_
      (repeat' first|(refine s_call (h1) (h:=?_))|(refine p_call (h1) (h:=?_))|(refine s_dec (upTo_fn _ _) (ht:=?_) (hff:=?_) <;> intro _ <;> try (exfalso;omega))|(refine p_dec (upTo_fn _ _) (ht:=?_) (hff:=?_) <;> intro _ <;> try (exfalso;omega))|(refine go_ ?_;((repeat' first|exact True.intro|refine Two.mk ?_ ?_);all_goals intros))|fail "")
      all_goals (exact endwA_)
    · rw [if_neg c1]
      unfold sdBad at c1
      by_cases c2:sdFull s
      · rw [if_pos c2]
        unfold sdFull at c2
        refine fn_of_run (by kernel_rfl) Tryz.func224 rfl (by kernel_rfl) ?_
        (repeat' first|(refine s_call (h1) (h:=?_))|(refine p_call (h1) (h:=?_))|(refine s_dec (upTo_fn _ _) (ht:=?_) (hff:=?_) <;> intro _ <;> try (exfalso;omega))|(refine p_dec (upTo_fn _ _) (ht:=?_) (hff:=?_) <;> intro _ <;> try (exfalso;omega))|(refine go_ ?_;((repeat' first|exact True.intro|refine Two.mk ?_ ?_);all_goals intros))|fail "")
        all_goals (exact endwA_)
      · rw [if_neg c2]
        unfold sdFull at c2
        refine fn_of_run (by kernel_rfl) Tryz.func224 rfl (by kernel_rfl) ?_
        (repeat' first|(refine s_call (h1) (h:=?_))|(refine p_call (h1) (h:=?_))|(refine s_dec (upTo_fn _ _) (ht:=?_) (hff:=?_) <;> intro _ <;> try (exfalso;omega))|(refine p_dec (upTo_fn _ _) (ht:=?_) (hff:=?_) <;> intro _ <;> try (exfalso;omega))|(refine s_app (r:=s.Sent.map encParcel) ?_ ?_ ?_ ?_ (h:=?_);(exact Z65_);(exact Z42_);(exact Z10_);(exact Z21_))|(refine s_app0R (r:=s.Sent.map encParcel) ?_ ?_ ?_ ?_ (h:=?_);(exact Z65_);(exact Z42_);(exact Z10_);(exact Z21_))|(refine p_app (r:=s.Sent.map encParcel) ?_ ?_ ?_ ?_ (h:=?_);(exact Z65_);(exact Z42_);(exact Z10_);(exact Z21_))|(refine s_app (r:=(s.Sent++[DParcel.mk s.Next now size l]).map encParcel) ?_ ?_ ?_ ?_ (h:=?_);(exact Z65_);(exact Z42_);(exact Z10_);(exact Z21_))|(refine s_app0R (r:=(s.Sent++[DParcel.mk s.Next now size l]).map encParcel) ?_ ?_ ?_ ?_ (h:=?_);(exact Z65_);(exact Z42_);(exact Z10_);(exact Z21_))|(refine p_app (r:=(s.Sent++[DParcel.mk s.Next now size l]).map encParcel) ?_ ?_ ?_ ?_ (h:=?_);(exact Z65_);(exact Z42_);(exact Z10_);(exact Z21_))|(refine go_ ?_;((repeat' first|exact True.intro|refine Two.mk ?_ ?_);all_goals intros))|fail "")
        all_goals (exact endwA_)
  · rw [h0] at h1 ⊢
    rw [if_pos (by omega)]
    refine fn_of_run (by kernel_rfl) Tryz.func224 rfl (by kernel_rfl) ?_
    (repeat' first|(refine s_call (h1) (h:=?_))|(refine p_call (h1) (h:=?_))|(refine go_ ?_;((repeat' first|exact True.intro|refine Two.mk ?_ ?_);all_goals intros))|fail "")
    all_goals (exact endwA_)
theorem spSend_wf (s:DSpace) (now size:Int) (l:List DFrame) (hw:wfSpace s) (hl:l.length * 88≤140737488351232) (hf:∀ y,y ∈ l→wfFrame y):wfSpace (spSend s now size l).1:=by
  have hz:wfSpace ⟨0,[],0,[],[]⟩:=by unfold wfSpace I64;simp
  unfold spSend
  rcases spFlt_cases s with ⟨h0,ho⟩ | ⟨h0,ho⟩
  · rw [h0,if_neg (by omega)]
    split
    · exact hz
    · rename_i c1
      split
      · exact hz
      · have hh:=ho.1.1
        unfold spHead at hh
        unfold sdBad at c1
        refine ⟨by unfold I64;dsimp only;omega,by dsimp only;rw [List.length_append];simp;omega,fun y hy=>?_,hw.2.2.2⟩
        rcases List.mem_append.1 hy with h|h
        · exact hw.2.2.1 y h
        · rw [List.mem_singleton.1 h]
          exact ⟨by unfold I64;dsimp only;omega,by unfold I64;dsimp only;omega,by unfold I64;dsimp only;omega,hl,hf⟩
  · rw [h0,if_pos (by omega)];exact hz
end Go.Proofs.YtendheafcbickaaGreat
