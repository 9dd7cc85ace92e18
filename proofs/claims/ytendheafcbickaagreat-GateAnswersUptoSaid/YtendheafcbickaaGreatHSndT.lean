
import Derived.Test.YtendheafcbickaaGreatHZip
import Derived.Test.YtendheafcbickaaGreatHGo
import Derived.Test.YtendheafcbickaaGreatHSndR
import Derived.Test.YtendheafcbickaaGreatHMg21
import Derived.Test.YtendheafcbickaaGreatHMg07
set_option linter.unusedVariables false
set_option linter.unusedSimpArgs false
set_option linter.unusedVariables false
namespace Go.Proofs.YtendheafcbickaaGreat
set_option maxRecDepth 100000
attribute [local irreducible] Run RunL QStep GStep Fn Less PL FnM
set_option maxHeartbeats 8000000 in
theorem senderPieceRef_fn (s:DSender) (room credit:Int) (hw:U.wfSender s) (hr:I64 room) (hc:I64 credit):Fn Tryz.prog 222 [.agg (encSender s),.lit (.int .i64 room),.lit (.int .i64 credit)] (encPc (pcR s room credit)):=by
  have h1:=senderFault_fn s hw
  have h3:=fun r a b=>without_fn s.Lost r a b (by have:=hw.2.2.2.1;omega)
  clear hw
  unfold I64 at hr hc
  unfold pcR encPc
  rcases sndFlt_cases s with ⟨h0,hok⟩ | ⟨h0,hbad⟩
  · rw [h0] at h1
    rw [if_neg (by omega)]
    clear h0
    by_cases hq:0≤room∧room≤120∧0≤credit
    · rw [if_neg (fun h=>h hq)]
      obtain ⟨⟨f1,f2,f3,f4,f5⟩,f6,f7,g1,g2,g3⟩:=pc_facts hok hq
      clear hok
      refine fn_of_run (by kernel_rfl) Tryz.func222 rfl (by kernel_rfl) ?_
      (repeat' first|(refine s_call (h1) (h:=?_))|(refine p_call (h1) (h:=?_))|(refine s_dec (upTo_fn _ _) (ht:=?_) (hff:=?_) <;> intro _ <;> try (exfalso;omega))|(refine p_dec (upTo_fn _ _) (ht:=?_) (hff:=?_) <;> intro _ <;> try (exfalso;omega))|(refine goU_ 6 ?_;((repeat' first|exact True.intro|refine Two.mk ?_ ?_);all_goals intros))|fail "")
      generalize hlo:pcLo s room=lo at *
      generalize hnn:pcN s room credit=n at *
      refine r_cut (fun _:Unit=>⟨[(1,.lit (.int .i64 room)),(2,.lit (.int .i64 credit)),(3,.ptr 0 0 0 0),(6,.ptr 1 0 0 0),(7,.ptr 2 0 0 0),(11,.lit (.int .i64 s.Next)),(12,.lit (.int .i64 0))],[(0,some (.box 132 (encSender s))),(1,some (.box 132 [.lit (.slice none 0 0),.lit (.bool false),.lit (.int .i64 0),.lit (.int .i64 0),.lit (.slice none 0 0),.lit (.slice none 0 0),.lit (.bool false),.lit (.bool false)])),(2,some (.box 111 [.lit (.int .i64 0),.lit (.int .i64 0),.lit (.int .i64 0),.lit (.bool false),.lit (.int .i64 0),.lit (.slice none 0 0),.lit (.slice none 0 0)]))],3,Tryz.f222.ntmps⟩) (fun _=>True) ?_ ?_
      · (repeat' first|(refine go_ ?_;((repeat' first|exact True.intro|refine Two.mk ?_ ?_);all_goals intros))|fail "")
        all_goals first
          | (refine ⟨(),?_,?_⟩;rotate_left 1;(exact lessA_);(exact Z68_))
          | skip
      rintro _ _
      refine r_cut (fun x:Int×Int=>⟨[(3,.ptr 0 0 0 0),(6,.ptr 1 0 0 0),(7,.ptr 2 0 0 0),(11,.lit (.int .i64 x.1)),(12,.lit (.int .i64 x.2))],[(0,some (.box 132 (encSender s))),(1,some (.box 132 [.lit (.slice none 0 0),.lit (.bool false),.lit (.int .i64 0),.lit (.int .i64 0),.lit (.slice none 0 0),.lit (.slice none 0 0),.lit (.bool false),.lit (.bool false)])),(2,some (.box 111 [.lit (.int .i64 0),.lit (.int .i64 0),.lit (.int .i64 0),.lit (.bool false),.lit (.int .i64 0),.lit (.slice none 0 0),.lit (.slice none 0 0)]))],3,Tryz.f222.ntmps⟩) (fun x=>x=(lo,n)) ?_ ?_
      · unfold pcLo at hlo
        unfold pcN at hnn
        by_cases hp:0<s.Lost.length
        · by_cases hp2:0<room
          · rw [if_pos ⟨hp,hp2⟩] at hlo hnn
            have:=f7 hp
            (repeat' first|(refine go_ ?_;((repeat' first|exact True.intro|refine Two.mk ?_ ?_);all_goals intros))|fail "")
            all_goals first
              | (refine ⟨((s.Lost.getD 0 default).Lo,min room ((s.Lost.getD 0 default).Hi - (s.Lost.getD 0 default).Lo+1)),?_,?_⟩;rotate_left 1;(exact lessA_);(focus (exact Prod.ext hlo hnn)))
              | skip
          · rw [if_neg (fun h=>hp2 h.2)] at hlo hnn
            (repeat' first|refine s_i (hq:=q_min4 rfl rfl rfl rfl rfl) (h:=?_)|refine p_i (hq:=fun _=>q_min4 rfl rfl rfl rfl rfl) (h:=?_)|(refine goI_ ?_;((repeat' first|exact True.intro|refine Two.mk ?_ ?_);all_goals intros))|refine s_i (h:=?_)|refine s_i (hq:=q_index_ro rfl rfl rfl (by first|exact lit0|exact lit1|exact lit2|exact lit3|rfl) (by simp only [List.length_cons,List.length_nil];omega) rfl rfl rfl rfl) (h:=?_)|refine p_i (h:=?_)|refine p_ih (h:=?_)|refine s_lit (h:=?_)|refine p_lit (h:=?_)|refine p_lit0 (h:=?_)|refine s_lit0 (h:=?_)|refine s_ixa (h:=?_)|refine s_insert (h:=?_)|((first|refine s_sadd rfl ?_ (h:=?_)|refine p_sadd rfl ?_ (h:=?_));(exact Z11_))|fail "")
            all_goals first
              | (refine ⟨(s.Next,min (min room credit) (min (s.Data.length - s.Next) (s.Max - s.Next))),?_,?_⟩;rotate_left 1;(exact lessA_);(focus (exact Prod.ext hlo hnn)))
              | skip
        · rw [if_neg (fun h=>hp h.1)] at hlo hnn
          (repeat' first|refine s_i (hq:=q_min4 rfl rfl rfl rfl rfl) (h:=?_)|refine p_i (hq:=fun _=>q_min4 rfl rfl rfl rfl rfl) (h:=?_)|(refine goI_ ?_;((repeat' first|exact True.intro|refine Two.mk ?_ ?_);all_goals intros))|refine s_i (h:=?_)|refine s_i (hq:=q_index_ro rfl rfl rfl (by first|exact lit0|exact lit1|exact lit2|exact lit3|rfl) (by simp only [List.length_cons,List.length_nil];omega) rfl rfl rfl rfl) (h:=?_)|refine p_i (h:=?_)|refine p_ih (h:=?_)|refine s_lit (h:=?_)|refine p_lit (h:=?_)|refine p_lit0 (h:=?_)|refine s_lit0 (h:=?_)|refine s_ixa (h:=?_)|refine s_insert (h:=?_)|((first|refine s_sadd rfl ?_ (h:=?_)|refine p_sadd rfl ?_ (h:=?_));(exact Z11_))|fail "")
          all_goals first
            | (refine ⟨(s.Next,min (min room credit) (min (s.Data.length - s.Next) (s.Max - s.Next))),?_,?_⟩;rotate_left 1;(exact lessA_);(focus (exact Prod.ext hlo hnn)))
            | skip
      rintro _ rfl
      dsimp only
      clear f7 hlo hnn h1 hr hc hq
      generalize hfn:pcFin s lo n=fin
      refine r_cut (fun b:Bool=>⟨[(3,.ptr 0 0 0 0),(6,.ptr 1 0 0 0),(7,.ptr 2 0 0 0),(11,.lit (.int .i64 lo)),(12,.lit (.int .i64 n)),(13,.lit (.bool b))],[(0,some (.box 132 (encSender s))),(1,some (.box 132 [.lit (.slice none 0 0),.lit (.bool false),.lit (.int .i64 0),.lit (.int .i64 0),.lit (.slice none 0 0),.lit (.slice none 0 0),.lit (.bool false),.lit (.bool false)])),(2,some (.box 111 [.lit (.int .i64 0),.lit (.int .i64 0),.lit (.int .i64 0),.lit (.bool false),.lit (.int .i64 0),.lit (.slice none 0 0),.lit (.slice none 0 0)]))],3,Tryz.f222.ntmps⟩) (fun b=>b=fin) ?_ ?_
      · clear h3
        unfold pcFin at hfn
        obtain ⟨data,f0,next,mx,lost,acked,en,ov⟩:=s
        dsimp only [encSender] at *
        by_cases he:lo+n=data.length
        · rw [decide_eq_true he] at hfn
          cases f0 <;> cases en <;> cases ov <;> subst hfn
          all_goals (repeat' first|(refine go_ ?_;((repeat' first|exact True.intro|refine Two.mk ?_ ?_);all_goals intros))|fail "")
          all_goals first
            | (refine ⟨true,?_,?_⟩;rotate_left 1;(exact lessA_);(focus (rfl)))
            | (refine ⟨false,?_,?_⟩;rotate_left 1;(exact lessA_);(focus (rfl)))
            | skip
        · rw [decide_eq_false he] at hfn
          cases f0 <;> cases en <;> cases ov <;> subst hfn
          all_goals (repeat' first|(refine go_ ?_;((repeat' first|exact True.intro|refine Two.mk ?_ ?_);all_goals intros))|fail "")
          all_goals first
            | (refine ⟨false,?_,?_⟩;rotate_left 1;(exact lessA_);(focus (rfl)))
            | skip
      rintro b rfl
      clear hfn
      obtain ⟨lo,rfl⟩:=Int.eq_ofNat_of_zero_le g1
      obtain ⟨n,rfl⟩:=Int.eq_ofNat_of_zero_le g2
      unfold pcDo
      rw [Int.toNat_natCast,show ((lo:Int)+(n:Int)).toNat=lo+n by omega]
      obtain ⟨data,f0,next,mx,lost,acked,en,ov⟩:=s
      dsimp only [encSender] at *
      by_cases hn:n=0
      · subst hn
        clear h3
        cases b
        · rw [if_pos ⟨rfl,rfl⟩]
          (repeat' first|(refine go_ ?_;((repeat' first|exact True.intro|refine Two.mk ?_ ?_);all_goals intros))|fail "")
          all_goals first
            | (exact endwA_)
            | skip
        · rw [if_neg (fun h=>by cases h.2),if_neg (by omega)]
          rw [show List.drop lo (List.take (lo+0) data)=([]:List UInt8) by simp]
          cases en
          all_goals (repeat' first|(refine s_slice (r:=([]:List UInt8)) (lo) (lo+0) ?_ ?_ ?_ ?_ ?_ (h:=?_);(exact Z36_);(exact Z36_);(focus omega);(focus omega);(exact Z55_))|(refine p_slice (r:=([]:List UInt8)) (lo) (lo+0) ?_ ?_ ?_ ?_ ?_ (h:=?_);(exact Z36_);(exact Z36_);(focus omega);(focus omega);(exact Z55_))|(refine go_ ?_;((repeat' first|exact True.intro|refine Two.mk ?_ ?_);all_goals intros))|fail "")
          all_goals first
            | (exact endwA_)
            | skip
      · have h3:=h3 ⟨lo,(lo:Int)+n - 1⟩ f6 (by unfold rGood;dsimp only;omega)
        rw [if_neg (fun h=>hn (by omega)),if_pos (by omega)]
        generalize hdt:List.drop lo (List.take (lo+n) data)=dt
        have hdl:dt.length=n:=by rw [← hdt];simp;omega
        cases b <;> cases en
        all_goals (repeat' first|(refine s_call (h3) (h:=?_))|(refine p_call (h3) (h:=?_))|(refine s_slice (r:=dt) (lo) (lo+n) ?_ ?_ ?_ ?_ ?_ (h:=?_);(exact Z36_);(exact Z36_);(focus omega);(focus omega);(exact Z55_))|(refine p_slice (r:=dt) (lo) (lo+n) ?_ ?_ ?_ ?_ ?_ (h:=?_);(exact Z36_);(exact Z36_);(focus omega);(focus omega);(exact Z55_))|(refine go_ ?_;((repeat' first|exact True.intro|refine Two.mk ?_ ?_);all_goals intros))|fail "")
        all_goals first
          | (exact endwA_)
          | skip
    · rw [if_pos hq]
      clear h3 hok
      refine fn_of_run (by kernel_rfl) Tryz.func222 rfl (by kernel_rfl) ?_
      (repeat' first|(refine s_call (h1) (h:=?_))|(refine p_call (h1) (h:=?_))|(refine s_dec (upTo_fn _ _) (ht:=?_) (hff:=?_) <;> intro _ <;> try (exfalso;omega))|(refine p_dec (upTo_fn _ _) (ht:=?_) (hff:=?_) <;> intro _ <;> try (exfalso;omega))|(refine go_ ?_;((repeat' first|exact True.intro|refine Two.mk ?_ ?_);all_goals intros))|fail "")
      all_goals first
        | (exact endwA_)
        | skip
  · rw [h0] at h1 ⊢
    rw [if_pos (by decide)]
    clear h3
    refine fn_of_run (by kernel_rfl) Tryz.func222 rfl (by kernel_rfl) ?_
    (repeat' first|(refine s_call (h1) (h:=?_))|(refine p_call (h1) (h:=?_))|(refine go_ ?_;((repeat' first|exact True.intro|refine Two.mk ?_ ?_);all_goals intros))|fail "")
    all_goals first
      | (exact endwA_)
      | skip
theorem rCut_len600 {l:List DRange} (hs:rSet (-2) l) {r:DRange} (hr:rGood r) {m:Nat} (h:l.length≤m):(rCut l r).length≤m+1:=by
  have:=rCut_len hr hs
  omega
end Go.Proofs.YtendheafcbickaaGreat
