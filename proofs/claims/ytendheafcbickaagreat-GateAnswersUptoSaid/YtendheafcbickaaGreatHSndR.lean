
import Derived.Test.YtendheafcbickaaGreatHZip
import Derived.Test.YtendheafcbickaaGreatHGo
import Derived.Test.YtendheafcbickaaGreatHMg21
import Derived.Test.YtendheafcbickaaGreatHAbsB
set_option linter.unusedVariables false
set_option linter.unusedSimpArgs false
set_option linter.unusedVariables false
namespace Go.Proofs.YtendheafcbickaaGreat
set_option maxRecDepth 100000
attribute [local irreducible] Run RunL QStep GStep Fn Less PL FnM
def frZ:DFrame:=⟨0,0,0,false,0,[],[]⟩
def pcLo (s:DSender) (room:Int):Int:=if 0<s.Lost.length∧0<room then (s.Lost.getD 0 default).Lo else s.Next
def pcN (s:DSender) (room credit:Int):Int:=if 0<s.Lost.length∧0<room then min room ((s.Lost.getD 0 default).Hi - (s.Lost.getD 0 default).Lo+1) else min (min room credit) (min (s.Data.length - s.Next) (s.Max - s.Next))
def pcFin (s:DSender) (lo n:Int):Bool:=s.Fin && !s.Ended && !s.Over && decide (lo+n=s.Data.length)
def pcDo (s:DSender) (lo n:Int) (fin:Bool):DSender×DFrame×Bool×Int:=
  if n=0∧fin=false then (s,frZ,false,0)
  else ({ s with Lost:=if 0<n then rCut s.Lost ⟨lo,lo+n - 1⟩ else s.Lost,Next:=max s.Next (lo+n),Ended:=s.Ended || fin },⟨8,0,lo,fin,0,[],(s.Data.take (lo+n).toNat).drop lo.toNat⟩,true,0)
noncomputable def pcR (s:DSender) (room credit:Int):DSender×DFrame×Bool×Int:=
  if sndFlt s≠0 then (sndZ,frZ,false,sndFlt s) else if ¬ (0≤room∧room≤120∧0≤credit) then (sndZ,frZ,false,6)
  else pcDo s (pcLo s room) (pcN s room credit) (pcFin s (pcLo s room) (pcN s room credit))
def encPc (r:DSender×DFrame×Bool×Int):V:=.tup [.agg (encSender r.1),.agg (encFrame r.2.1),.lit (.bool r.2.2.1),.lit (.int .i64 r.2.2.2)]
theorem pc_facts {s:DSender} (h:sndOk s) {room credit:Int} (hr:0≤room∧room≤120∧0≤credit) :
    (0≤s.Next∧s.Next≤s.Data.length∧s.Next≤s.Max∧s.Max≤4611686018427387903∧s.Data.length≤600)∧rSet (-2) s.Lost∧(0<s.Lost.length→0≤(s.Lost.getD 0 default).Lo∧(s.Lost.getD 0 default).Lo≤(s.Lost.getD 0 default).Hi∧(s.Lost.getD 0 default).Hi<s.Next) ∧
    0≤pcLo s room∧0≤pcN s room credit∧pcLo s room+pcN s room credit≤s.Data.length:=by
  have hh:=h.1.1.1
  have hs:=rFlt_set hh.2.2.2.2.2.1
  have hl:=(lastLow_iff hs).1 h.1.1.2
  have h1:0≤s.Next∧s.Next≤s.Data.length∧s.Next≤s.Max∧s.Max≤4611686018427387903∧s.Data.length≤600:=by unfold sndHead at hh;omega
  have h2:0<s.Lost.length→0≤(s.Lost.getD 0 default).Lo∧(s.Lost.getD 0 default).Lo≤(s.Lost.getD 0 default).Hi∧(s.Lost.getD 0 default).Hi<s.Next:=fun hp=>by
    have hm:=getD_mem hp
    have hg:=(rSet_good hs _ hm).1
    have:=hl _ hm
    unfold rGood at hg
    omega
  refine ⟨h1,hs,h2,?_⟩
  unfold pcLo pcN
  by_cases hp:0<s.Lost.length∧0<room
  · have:=h2 hp.1
    rw [if_pos hp,if_pos hp];omega
  · rw [if_neg hp,if_neg hp];omega
theorem pc_cut {l:List DRange} (hs:rSet (-2) l) {lo n:Int} (h0:0≤lo) (hn:0<n) (hm:lo+n≤600):rCutR l ⟨lo,lo+n - 1⟩=(rCut l ⟨lo,lo+n - 1⟩,0):=by
  have hg:rGood ⟨lo,lo+n - 1⟩:=by unfold rGood;dsimp only;omega
  have hf:rFlt l=0:=if_pos hs
  have e:rgFlt l ⟨lo,lo+n - 1⟩=0:=by unfold rgFlt;rw [hf,if_neg (by decide),if_pos hg]
  unfold rCutR
  rw [e,if_neg (by decide)]
set_option maxHeartbeats 8000000 in
theorem senderPiece_fn (s:DSender) (room credit:Int) (hw:wfSender s) (hr:I64 room) (hc:I64 credit):Fn Tryz.prog 276 [.agg (encSender s),.lit (.int .i64 room),.lit (.int .i64 credit)] (encPc (pcR s room credit)):=by
  have h1:=senderCheck_fn s hw
  have h2:=senderFresh_fn s hw
  have h3:=fun r=>cut_fn s.Lost r hw.2.2.2.2.1 (by have:=hw.2.2.2.1;omega)
  clear hw
  unfold I64 at hr hc
  unfold pcR encPc
  rcases sndFlt_cases s with ⟨h0,hok⟩ | ⟨h0,hbad⟩
  · rw [h0] at h1
    rw [if_neg (by omega)]
    clear h0
    by_cases hq:0≤room∧room≤120∧0≤credit
    · rw [if_neg (fun h=>h hq)]
      obtain ⟨⟨f1,f2,f3,f4,f5⟩,f6,f7,g1,g2,g3⟩:=pc_facts hok hq
      clear hok
      refine fn_of_run (by kernel_rfl) Tryz.func276 rfl (by kernel_rfl) ?_
      (repeat' first|(refine s_call (h1) (h:=?_))|(refine p_call (h1) (h:=?_))|(refine s_call (h2) (h:=?_))|(refine p_call (h2) (h:=?_))|(refine goU_ 7 ?_;((repeat' first|exact True.intro|refine Two.mk ?_ ?_);all_goals intros))|fail "")
      generalize hlo:pcLo s room=lo at *
      generalize hnn:pcN s room credit=n at *
      refine r_cut (fun x:Int×Int=>⟨[(1,.lit (.int .i64 room)),(2,.lit (.int .i64 credit)),(3,.ptr 0 0 0 0),(6,.ptr 1 0 0 0),(7,.ptr 2 0 0 0),(11,.lit (.int .i64 x.1)),(12,.lit (.int .i64 x.2))],[(0,some (.box 132 (encSender s))),(1,some (.box 132 [.lit (.slice none 0 0),.lit (.bool false),.lit (.int .i64 0),.lit (.int .i64 0),.lit (.slice none 0 0),.lit (.slice none 0 0),.lit (.bool false),.lit (.bool false)])),(2,some (.box 111 [.lit (.int .i64 0),.lit (.int .i64 0),.lit (.int .i64 0),.lit (.bool false),.lit (.int .i64 0),.lit (.slice none 0 0),.lit (.slice none 0 0)]))],3,Tryz.f276.ntmps⟩) (fun x=>x=(s.Next,min (min (s.Data.length:Int) s.Max) (min (s.Next+room) (s.Next+min credit 120)))) ?_ ?_
      · (repeat' first|refine s_i (hq:=q_min4 rfl rfl rfl rfl rfl) (h:=?_)|refine p_i (hq:=fun _=>q_min4 rfl rfl rfl rfl rfl) (h:=?_)|(refine goI_ ?_;((repeat' first|exact True.intro|refine Two.mk ?_ ?_);all_goals intros))|refine s_i (h:=?_)|refine s_i (hq:=q_index_ro rfl rfl rfl (by first|exact lit0|exact lit1|exact lit2|exact lit3|rfl) (by simp only [List.length_cons,List.length_nil];omega) rfl rfl rfl rfl) (h:=?_)|refine p_i (h:=?_)|refine p_ih (h:=?_)|refine s_lit (h:=?_)|refine p_lit (h:=?_)|refine p_lit0 (h:=?_)|refine s_lit0 (h:=?_)|refine s_ixa (h:=?_)|refine s_insert (h:=?_)|((first|refine s_sadd rfl ?_ (h:=?_)|refine p_sadd rfl ?_ (h:=?_));(exact Z11_))|fail "")
        all_goals first
          | (refine ⟨(s.Next,min (min (s.Data.length:Int) s.Max) (min (s.Next+room) (s.Next+min credit 120))),?_,?_⟩;rotate_left 1;(exact lessA_);(focus (rfl)))
          | skip
      rintro _ rfl
      dsimp only
      refine r_cut (fun x:Int×Int=>⟨[(3,.ptr 0 0 0 0),(6,.ptr 1 0 0 0),(7,.ptr 2 0 0 0),(11,.lit (.int .i64 x.1)),(12,.lit (.int .i64 x.2))],[(0,some (.box 132 (encSender s))),(1,some (.box 132 [.lit (.slice none 0 0),.lit (.bool false),.lit (.int .i64 0),.lit (.int .i64 0),.lit (.slice none 0 0),.lit (.slice none 0 0),.lit (.bool false),.lit (.bool false)])),(2,some (.box 111 [.lit (.int .i64 0),.lit (.int .i64 0),.lit (.int .i64 0),.lit (.bool false),.lit (.int .i64 0),.lit (.slice none 0 0),.lit (.slice none 0 0)]))],3,Tryz.f276.ntmps⟩) (fun x=>x=(lo,lo+n)) ?_ ?_
      · unfold pcLo at hlo
        unfold pcN at hnn
        by_cases hp:0<s.Lost.length
        · by_cases hp2:0<room
          · rw [if_pos ⟨hp,hp2⟩] at hlo hnn
            have:=f7 hp
            (repeat' first|(refine go_ ?_;((repeat' first|exact True.intro|refine Two.mk ?_ ?_);all_goals intros))|fail "")
            all_goals first
              | (refine ⟨((s.Lost.getD 0 default).Lo,min ((s.Lost.getD 0 default).Hi+1) ((s.Lost.getD 0 default).Lo+room)),?_,?_⟩;rotate_left 1;(exact lessA_);(focus (rw [hlo];congr 1;omega)))
              | skip
          · rw [if_neg (fun h=>hp2 h.2)] at hlo hnn
            (repeat' first|(refine go_ ?_;((repeat' first|exact True.intro|refine Two.mk ?_ ?_);all_goals intros))|fail "")
            all_goals first
              | (refine ⟨(s.Next,min (min (s.Data.length:Int) s.Max) (min (s.Next+room) (s.Next+min credit 120))),?_,?_⟩;rotate_left 1;(exact lessA_);(focus (rw [hlo];congr 1;omega)))
              | skip
        · rw [if_neg (fun h=>hp h.1)] at hlo hnn
          (repeat' first|(refine go_ ?_;((repeat' first|exact True.intro|refine Two.mk ?_ ?_);all_goals intros))|fail "")
          all_goals first
            | (refine ⟨(s.Next,min (min (s.Data.length:Int) s.Max) (min (s.Next+room) (s.Next+min credit 120))),?_,?_⟩;rotate_left 1;(exact lessA_);(focus (rw [hlo];congr 1;omega)))
            | skip
      rintro _ rfl
      dsimp only
      clear f7 hlo hnn h1 h2 hr hc hq
      generalize hfn:pcFin s lo n=fin
      refine r_cut (fun b:Bool=>⟨[(3,.ptr 0 0 0 0),(6,.ptr 1 0 0 0),(7,.ptr 2 0 0 0),(11,.lit (.int .i64 lo)),(12,.lit (.int .i64 (lo+n))),(13,.lit (.bool b))],[(0,some (.box 132 (encSender s))),(1,some (.box 132 [.lit (.slice none 0 0),.lit (.bool false),.lit (.int .i64 0),.lit (.int .i64 0),.lit (.slice none 0 0),.lit (.slice none 0 0),.lit (.bool false),.lit (.bool false)])),(2,some (.box 111 [.lit (.int .i64 0),.lit (.int .i64 0),.lit (.int .i64 0),.lit (.bool false),.lit (.int .i64 0),.lit (.slice none 0 0),.lit (.slice none 0 0)]))],3,Tryz.f276.ntmps⟩) (fun b=>b=fin) ?_ ?_
      · clear h3
        unfold pcFin at hfn
        obtain ⟨data,f0,next,mx,lost,acked,en,ov⟩:=s
        dsimp only [encSender] at *
        by_cases he:lo+n=data.length
        · rw [decide_eq_true he] at hfn
          cases f0 <;> cases en <;> cases ov <;> subst hfn
          all_goals (repeat' first|(refine go_ ?_;((repeat' first|exact True.intro|refine Two.mk ?_ ?_);all_goals intros))|fail "")
          all_goals first
            | (refine ⟨true,?_,?_⟩;rotate_left 1;(exact lessA_);(focus (rfl)))
            | (refine ⟨false,?_,?_⟩;rotate_left 1;(exact lessA_);(focus (rfl)))
            | skip
        · rw [decide_eq_false he] at hfn
          cases f0 <;> cases en <;> cases ov <;> subst hfn
          all_goals (repeat' first|(refine go_ ?_;((repeat' first|exact True.intro|refine Two.mk ?_ ?_);all_goals intros))|fail "")
          all_goals first
            | (refine ⟨false,?_,?_⟩;rotate_left 1;(exact lessA_);(focus (rfl)))
            | skip
      rintro b rfl
      clear hfn
      obtain ⟨lo,rfl⟩:=Int.eq_ofNat_of_zero_le g1
      obtain ⟨n,rfl⟩:=Int.eq_ofNat_of_zero_le g2
      unfold pcDo
      rw [Int.toNat_natCast,show ((lo:Int)+(n:Int)).toNat=lo+n by omega]
      obtain ⟨data,f0,next,mx,lost,acked,en,ov⟩:=s
      dsimp only [encSender] at *
      by_cases hn:n=0
      · subst hn
        clear h3
        cases b
        · rw [if_pos ⟨rfl,rfl⟩]
          (repeat' first|(refine go_ ?_;((repeat' first|exact True.intro|refine Two.mk ?_ ?_);all_goals intros))|fail "")
          all_goals first
            | (exact endwA_)
            | skip
        · rw [if_neg (fun h=>by cases h.2),if_neg (by omega)]
          rw [show List.drop lo (List.take (lo+0) data)=([]:List UInt8) by simp]
          cases en
          all_goals (repeat' first|(refine s_slice (r:=([]:List UInt8)) (lo) (lo+0) ?_ ?_ ?_ ?_ ?_ (h:=?_);(exact Z36_);(exact Z36_);(focus omega);(focus omega);(exact Z55_))|(refine p_slice (r:=([]:List UInt8)) (lo) (lo+0) ?_ ?_ ?_ ?_ ?_ (h:=?_);(exact Z36_);(exact Z36_);(focus omega);(focus omega);(exact Z55_))|(refine s_appro (r:=(([]:List UInt8)).map encB) ?_ ?_ ?_ ?_ (h:=?_);(focus (first|(rfl)|exact Z1_));(exact Z47_);(exact Z12_);(exact Z22_))|(refine p_appro (r:=(([]:List UInt8)).map encB) ?_ ?_ ?_ ?_ (h:=?_);(focus (first|(rfl)|exact Z1_));(exact Z47_);(exact Z12_);(exact Z22_))|(refine go_ ?_;((repeat' first|exact True.intro|refine Two.mk ?_ ?_);all_goals intros))|fail "")
          all_goals first
            | (exact endwA_)
            | skip
      · have h3:=h3 ⟨lo,(lo:Int)+n - 1⟩
        rw [pc_cut f6 (by omega) (by omega) (by omega)] at h3
        rw [if_neg (fun h=>hn (by omega)),if_pos (by omega)]
        generalize hdt:List.drop lo (List.take (lo+n) data)=dt
        have hdl:dt.length=n:=by rw [← hdt];simp;omega
        cases b <;> cases en
        all_goals (repeat' first|(refine s_call (h3) (h:=?_))|(refine p_call (h3) (h:=?_))|(refine s_slice (r:=dt) (lo) (lo+n) ?_ ?_ ?_ ?_ ?_ (h:=?_);(exact Z36_);(exact Z36_);(focus omega);(focus omega);(exact Z55_))|(refine p_slice (r:=dt) (lo) (lo+n) ?_ ?_ ?_ ?_ ?_ (h:=?_);(exact Z36_);(exact Z36_);(focus omega);(focus omega);(exact Z55_))|(refine s_appro (r:=dt.map encB) ?_ ?_ ?_ ?_ (h:=?_);(focus (first|(rfl)|exact Z1_));(exact Z47_);(exact Z12_);(exact Z22_))|(refine p_appro (r:=dt.map encB) ?_ ?_ ?_ ?_ (h:=?_);(focus (first|(rfl)|exact Z1_));(exact Z47_);(exact Z12_);(exact Z22_))|(refine go_ ?_;((repeat' first|exact True.intro|refine Two.mk ?_ ?_);all_goals intros))|fail "")
        all_goals first
          | (exact endwA_)
          | skip
    · rw [if_pos hq]
      clear h3 hok
      refine fn_of_run (by kernel_rfl) Tryz.func276 rfl (by kernel_rfl) ?_
      (repeat' first|(refine s_call (h1) (h:=?_))|(refine p_call (h1) (h:=?_))|(refine go_ ?_;((repeat' first|exact True.intro|refine Two.mk ?_ ?_);all_goals intros))|fail "")
      all_goals first
        | (exact endwA_)
        | skip
  · rw [h0] at h1 ⊢
    rw [if_pos (by decide)]
    clear h3
    refine fn_of_run (by kernel_rfl) Tryz.func276 rfl (by kernel_rfl) ?_
    (repeat' first|(refine s_call (h1) (h:=?_))|(refine p_call (h1) (h:=?_))|(refine go_ ?_;((repeat' first|exact True.intro|refine Two.mk ?_ ?_);all_goals intros))|fail "")
    all_goals first
      | (exact endwA_)
      | skip
end Go.Proofs.YtendheafcbickaaGreat
