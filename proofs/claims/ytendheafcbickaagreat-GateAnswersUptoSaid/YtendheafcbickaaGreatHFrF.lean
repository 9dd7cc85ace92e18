
import Derived.Test.YtendheafcbickaaGreatHZip
import Derived.Test.YtendheafcbickaaGreatHGo
import Derived.Test.YtendheafcbickaaGreatHMg10
set_option linter.unusedVariables false
set_option linter.unusedSimpArgs false
set_option linter.unusedVariables false
namespace Go.Proofs.YtendheafcbickaaGreat
set_option maxRecDepth 100000
attribute [local irreducible] Run RunL QStep GStep Fn Less PL FnM
theorem allTo3 {Q:Nat→Prop}:AllTo Q 3 ↔ Q 0∧Q 1∧Q 2:=
  ⟨fun h=>⟨h 0 (by omega),h 1 (by omega),h 2 (by omega)⟩,fun h i hi=>by
    rcases (show i=0∨i=1∨i=2 by omega) with rfl|rfl|rfl
    · exact h.1
    · exact h.2.1
    · exact h.2.2⟩
def encBI (x:Bool×Int):List V:=[.lit (.bool x.1),.lit (.int .i64 x.2)]
theorem hasB_len (k:Int):(hasB k).length≤4:=by
  unfold hasB
  repeat (split;decide)
  decide
theorem hasB_r (k:Int):hasI (hasB k) 114=true ↔ k=2:=by
  rcases kind_cases k with rfl|rfl|rfl|rfl|rfl|rfl|rfl|rfl|rfl|rfl|rfl|rfl|rfl|rfl|rfl|h
  iterate 15 decide
  rw [(kOk_other h).2]
  constructor
  · intro e;cases e
  · intro e;omega
set_option maxHeartbeats 4000000 in
theorem frameFault_fn (f:DFrame) (hw:wfFrame f):Fn Tryz.prog 67 [.agg (encFrame f)] (.lit (.int .i64 (frFlt f))):=by
  obtain ⟨w1,w2,w3,w4,w5,w6,w7⟩:=hw
  have h1:=has_fn f.Kind
  have hl:=hasB_len f.Kind
  have g1:=in_fn (hasB f.Kind) 105 (by omega)
  have g2:=in_fn (hasB f.Kind) 111 (by omega)
  have g3:=in_fn (hasB f.Kind) 99 (by omega)
  have g4:=in_fn (hasB f.Kind) 119 (by omega)
  have g5:=in_fn (hasB f.Kind) 100 (by omega)
  have g6:=in_fn (hasB f.Kind) 102 (by omega)
  have g7:=in_fn (hasB f.Kind) 114 (by omega)
  have hr:=hasB_r f.Kind
  have ht:=told_iff f.Ranges
  unfold frFlt
  generalize hasI (hasB f.Kind) 105=bi at *
  generalize hasI (hasB f.Kind) 111=bo at *
  generalize hasI (hasB f.Kind) 99=bc at *
  generalize hasI (hasB f.Kind) 119=bw at *
  generalize hasI (hasB f.Kind) 100=bd at *
  generalize hasI (hasB f.Kind) 102=bf at *
  generalize hasI (hasB f.Kind) 114=br at *
  generalize hasB f.Kind=s at *
  generalize kOk f.Kind=hk at *
  generalize hq:rFlt f.Ranges.reverse=q at *
  have e:encFrame f=[.lit (.int .i64 f.Kind),.lit (.int .i64 f.Id),.lit (.int .i64 f.Off),.lit (.bool f.Fin),.lit (.int .i64 f.Code),.ro (f.Ranges.map encRange),.ro (f.Data.map encB)]:=rfl
  rw [e]
  clear e
  generalize f.Fin=fin at *
  unfold I64 at w1 w2 w3 w4
  cases hk
  · rw [if_pos rfl]
    refine fn_of_run (by kernel_rfl) Tryz.func67 rfl (by kernel_rfl) ?_
    (repeat' first|(refine s_call (h1) (h:=?_))|(refine p_call (h1) (h:=?_))|(refine go_ ?_;((repeat' first|exact True.intro|refine Two.mk ?_ ?_);all_goals intros))|fail "")
    all_goals exact ends_ (hr:=rfl)
  rw [if_neg (by simp)]
  refine fn_of_run (by kernel_rfl) Tryz.func67 rfl (by kernel_rfl) ?_
  (repeat' first|(refine s_call (h1) (h:=?_))|(refine p_call (h1) (h:=?_))|(refine goU_ 6 ?_;((repeat' first|exact True.intro|refine Two.mk ?_ ?_);all_goals intros))|fail "")
  · refine ends_ (hr:=?_)
    rw [if_pos (by omega)]
  · refine ends_ (hr:=?_)
    rw [if_pos (by omega)]
  rw [if_neg (by omega)]
  refine r_seq ?_
  refine r_cut (fun L:List (Bool×Int)=>⟨[(1,.ptr 0 0 0 0),(3,.lit (.string (strB s))),(47,.ro (L.map encBI)),(48,.lit (.int .i64 3)),(49,.lit (.int .i64 0))],[(0,some (.box 111 [.lit (.int .i64 f.Kind),.lit (.int .i64 f.Id),.lit (.int .i64 f.Off),.lit (.bool fin),.lit (.int .i64 f.Code),.ro (f.Ranges.map encRange),.ro (f.Data.map encB)]))],1,Tryz.f67.ntmps⟩) (fun L=>L=[(bi,f.Id),(bo,f.Off),(bc || bw,f.Code)]) ?_ ?_
  · clear w5 w6 w7 ht hr
    cases bc
    all_goals (repeat' first|(refine s_call (g1) (h:=?_))|(refine p_call (g1) (h:=?_))|(refine s_call (g2) (h:=?_))|(refine p_call (g2) (h:=?_))|(refine s_call (g3) (h:=?_))|(refine p_call (g3) (h:=?_))|(refine s_call (g4) (h:=?_))|(refine p_call (g4) (h:=?_))|(refine go_ ?_;((repeat' first|exact True.intro|refine Two.mk ?_ ?_);all_goals intros))|fail "")
    all_goals first
      | (refine ⟨[(bi,f.Id),(bo,f.Off),(bw,f.Code)],?_,?_⟩;rotate_left 1;(exact lessA_);(focus (rfl)))
      | (refine ⟨[(bi,f.Id),(bo,f.Off),(true,f.Code)],?_,?_⟩;rotate_left 1;(exact lessA_);(focus (rfl)))
  rintro L rfl
  generalize hL:[(bi,f.Id),(bo,f.Off),(bc || bw,f.Code)]=L
  have hL3:L.length=3:=by rw [← hL];rfl
  have hLw:∀ p ∈ L,-9223372036854775808≤p.2∧p.2≤9223372036854775807:=by
    rw [← hL];intro p hp
    simp only [List.mem_cons,List.not_mem_nil,or_false] at hp
    rcases hp with rfl|rfl|rfl <;> assumption
  have hbad:(¬ mayP bi f.Id ∨ ¬ mayP bo f.Off ∨ ¬ mayP (bc || bw) f.Code) ↔ ¬ AllTo (fun i=>mayP (L.getD i default).1 (L.getD i default).2) 3:=by
    rw [← hL,allTo3]
    show (¬ mayP bi f.Id ∨ ¬ mayP bo f.Off ∨ ¬ mayP (bc || bw) f.Code) ↔ ¬ (mayP bi f.Id∧mayP bo f.Off∧mayP (bc || bw) f.Code)
    by_cases c1:mayP bi f.Id <;> by_cases c2:mayP bo f.Off <;> by_cases c3:mayP (bc || bw) f.Code <;> simp [c1,c2,c3]
  have hoff:AllTo (fun i=>mayP (L.getD i default).1 (L.getD i default).2) 3→0≤f.Off∧f.Off≤4611686018427387903:=fun h=>by
    have:=h 1 (by omega)
    rw [← hL] at this
    exact ⟨this.1,this.2.1⟩
  clear g1 g2 g3 g4
  clear hL
  (repeat' first|(refine go_ ?_;((repeat' first|exact True.intro|refine Two.mk ?_ ?_);all_goals intros))|fail "")
  refine r_for (fun k:Nat=>⟨[(1,.ptr 0 0 0 0),(3,.lit (.string (strB s))),(47,.ro (L.map encBI)),(48,.lit (.int .i64 3)),(49,.lit (.int .i64 k))],[(0,some (.box 111 [.lit (.int .i64 f.Kind),.lit (.int .i64 f.Id),.lit (.int .i64 f.Off),.lit (.bool fin),.lit (.int .i64 f.Code),.ro (f.Ranges.map encRange),.ro (f.Data.map encB)]))],1,Tryz.f67.ntmps⟩)
    (fun k=>k≤3∧AllTo (fun i=>mayP (L.getD i default).1 (L.getD i default).2) k) (fun k=>3 - k) 0 ⟨by omega,allTo0⟩ (by (exact lessA_)) ?_
  rintro k ⟨hk,ha⟩
  by_cases hk3:k<3
  · have hkL:k<L.length:=by omega
    have hpw:=hLw _ (getD_mem hkL)
    have hs:=allTo_succ (Q:=fun i=>mayP (L.getD i default).1 (L.getD i default).2) (k:=k)
    try dsimp only at hs
    (repeat' first|(refine goU_ 9 ?_;((repeat' first|exact True.intro|refine Two.mk ?_ ?_);all_goals intros))|fail "")
    generalize L.getD k default=p at *
    obtain ⟨b,n⟩:=p
    dsimp only at hpw
    cases b
    all_goals (repeat' first|(refine s_dec (upTo_fn _ _) (ht:=?_) (hff:=?_) <;> intro _ <;> try (exfalso;omega))|(refine p_dec (upTo_fn _ _) (ht:=?_) (hff:=?_) <;> intro _ <;> try (exfalso;omega))|(refine go_ ?_;((repeat' first|exact True.intro|refine Two.mk ?_ ?_);all_goals intros))|fail "")
    all_goals first
      | (refine ⟨k+1,?_,?_,?_⟩;rotate_left 2;(exact lessA_);(exact Z69_);(focus (exact ⟨hk3,hs.2 ⟨ha,by unfold mayP;simp;omega⟩⟩)))
      | (refine ends_ (hr:=?_);rw [if_pos (hbad.2 (fun h=>?_))];have:=(hs.1 (fun i hi=>h i (by omega))).2;unfold mayP at this;simp at this;omega)
  have hk3:k=3:=by omega
  subst hk3
  rw [if_neg (fun h=>hbad.1 h ha)]
  clear hbad
  obtain ⟨o1,o2⟩:=hoff ha
  clear ha hoff hLw
  (repeat' first|(refine goU_ 12 ?_;((repeat' first|exact True.intro|refine Two.mk ?_ ?_);all_goals intros))|fail "")
  refine r_cut (fun _:Unit=>⟨[(1,.ptr 0 0 0 0),(3,.lit (.string (strB s)))],[(0,some (.box 111 [.lit (.int .i64 f.Kind),.lit (.int .i64 f.Id),.lit (.int .i64 f.Off),.lit (.bool fin),.lit (.int .i64 f.Code),.ro (f.Ranges.map encRange),.ro (f.Data.map encB)]))],1,Tryz.f67.ntmps⟩) (fun _=>¬ (bd=true∧4611686018427387903<f.Off+f.Data.length)) ?_ ?_
  · clear w6 ht hr
    cases bd
    all_goals (repeat' first|(refine s_call (g5) (h:=?_))|(refine p_call (g5) (h:=?_))|(refine go_ ?_;((repeat' first|exact True.intro|refine Two.mk ?_ ?_);all_goals intros))|fail "")
    all_goals first
      | (refine ends_ (hr:=?_);rw [if_pos ⟨rfl,by omega⟩])
      | (refine ⟨(),?_,?_⟩;rotate_left 1;(exact lessA_);(focus (simp;try omega)))
  intro _ hb
  rw [if_neg hb]
  clear hb o1 o2
  refine r_cut (fun b:Bool=>⟨[(1,.ptr 0 0 0 0),(3,.lit (.string (strB s))),(7,.lit (.bool b))],[(0,some (.box 111 [.lit (.int .i64 f.Kind),.lit (.int .i64 f.Id),.lit (.int .i64 f.Off),.lit (.bool fin),.lit (.int .i64 f.Code),.ro (f.Ranges.map encRange),.ro (f.Data.map encB)]))],1,Tryz.f67.ntmps⟩) (fun b=>b=true ↔ (f.Kind=2 ↔ 0<f.Ranges.length)) ?_ ?_
  · cases br
    all_goals (repeat' first|(refine s_call (g7) (h:=?_))|(refine p_call (g7) (h:=?_))|(refine go_ ?_;((repeat' first|exact True.intro|refine Two.mk ?_ ?_);all_goals intros))|fail "")
    all_goals first
      | (refine ⟨true,?_,?_⟩;rotate_left 1;(exact lessA_);(exact Z42_))
      | (refine ⟨false,?_,?_⟩;rotate_left 1;(exact lessA_);(exact Z42_))
  rintro ok hok
  clear hr g7
  (repeat' first|(refine go_ ?_;((repeat' first|exact True.intro|refine Two.mk ?_ ?_);all_goals intros))|fail "")
  refine r_for (fun x:Nat×Bool=>⟨[(1,.ptr 0 0 0 0),(3,.lit (.string (strB s))),(7,.lit (.bool x.2)),(87,.ro (f.Ranges.map encRange)),(88,.lit (.int .i64 f.Ranges.length)),(89,.lit (.int .i64 x.1))],[(0,some (.box 111 [.lit (.int .i64 f.Kind),.lit (.int .i64 f.Id),.lit (.int .i64 f.Off),.lit (.bool fin),.lit (.int .i64 f.Code),.ro (f.Ranges.map encRange),.ro (f.Data.map encB)]))],1,Tryz.f67.ntmps⟩)
    (fun x=>x.1≤f.Ranges.length∧(x.2=true ↔ (f.Kind=2 ↔ 0<f.Ranges.length)∧AllTo (downQ f.Ranges) x.1)) (fun x=>f.Ranges.length - x.1) (0,ok) ⟨Nat.zero_le _,by rw [hok];exact ⟨fun h=>⟨h,allTo0⟩,fun h=>h.1⟩⟩ (by (exact lessA_)) ?_
  rintro ⟨k,ok⟩ ⟨hk,hi⟩
  dsimp only at hk hi ⊢
  by_cases hkn:k<f.Ranges.length
  · have hs:=allTo_succ (Q:=downQ f.Ranges) (k:=k)
    have hwk:=w6 _ (getD_mem hkn)
    unfold wfRange I64 at hwk
    clear hok w6 w7 w1 w2 w3 w4
    cases ok
    · (repeat' first|(refine go_ ?_;((repeat' first|exact True.intro|refine Two.mk ?_ ?_);all_goals intros))|fail "")
      all_goals (refine ⟨(k+1,false),?_,?_,?_⟩;rotate_left 2;(exact lessA_);(exact Z66_);(focus (exact ⟨hkn,(fun h=>by cases h),fun h=>by have:=hi.2 ⟨h.1,(hs.1 h.2).1⟩;cases this⟩)))
    · have hi:=hi.1 rfl
      have ek:(k:Int) - 1=((k - 1:Nat):Int)∨k=0:=by omega
      unfold downQ at hs
      have hU:∀ r:DRange,Fn Tryz.prog 144 [.agg (encRange r)] (.lit (.bool (decide (0≤r.Lo∧r.Lo≤r.Hi∧r.Hi≤4611686018427387903)))):=isRange_fn
      by_cases hk0:k=0
      · subst hk0
        (repeat' first|(refine s_dec (hU _) (ht:=?_) (hff:=?_) <;> intro _ <;> try (exfalso;omega))|(refine p_dec (hU _) (ht:=?_) (hff:=?_) <;> intro _ <;> try (exfalso;omega))|(refine go_ ?_;((repeat' first|exact True.intro|refine Two.mk ?_ ?_);all_goals intros))|fail "")
        all_goals first
          | (refine ⟨(1,true),?_,?_,?_⟩;rotate_left 2;(exact lessA_);(exact Z66_);(focus (exact ⟨hkn,fun _=>⟨hi.1,hs.2 ⟨hi.2,by unfold rGood;omega,.inl rfl⟩⟩,fun _=>rfl⟩)))
          | (refine ⟨(1,false),?_,?_,?_⟩;rotate_left 2;(exact lessA_);(exact Z66_);(focus (exact ⟨hkn,(fun h=>by cases h),fun h=>(by have hz:=(hs.1 h.2).2.1;unfold rGood at hz;omega)⟩)))
      · have ek:(k:Int) - 1=((k - 1:Nat):Int):=by omega
        (repeat' first|(refine s_dec (hU _) (ht:=?_) (hff:=?_) <;> intro _ <;> try (exfalso;omega))|(refine p_dec (hU _) (ht:=?_) (hff:=?_) <;> intro _ <;> try (exfalso;omega))|(refine go_ ?_;((repeat' first|exact True.intro|refine Two.mk ?_ ?_);all_goals intros))|fail "")
        all_goals first
          | (refine ⟨(k+1,true),?_,?_,?_⟩;rotate_left 2;(exact lessA_);(exact Z66_);(focus (exact ⟨hkn,fun _=>⟨hi.1,hs.2 ⟨hi.2,by unfold rGood;omega,.inr (by omega)⟩⟩,fun _=>rfl⟩)))
          | (refine ⟨(k+1,false),?_,?_,?_⟩;rotate_left 2;(exact lessA_);(exact Z66_);(focus (refine ⟨hkn,(fun h=>by cases h),fun h=>?_⟩;have hz:=(hs.1 h.2).2;unfold rGood at hz;exfalso;omega)))
  · have:k=f.Ranges.length:=by omega
    subst this
    rw [ht] at hi
    clear hok ht hk hkn w6 w1 w2 w3 w4 h1
    cases ok
    · have hn:¬ ((f.Kind=2 ↔ 0<f.Ranges.length)∧q=0):=fun h=>by have:=hi.2 h;cases this
      (repeat' first|(refine go_ ?_;((repeat' first|exact True.intro|refine Two.mk ?_ ?_);all_goals intros))|fail "")
      all_goals (refine ends_ (hr:=?_);rw [if_pos (by omega)])
    · have hi:=hi.1 rfl
      cases bd <;> cases bf <;> cases fin
      all_goals (repeat' first|(refine s_call (g5) (h:=?_))|(refine p_call (g5) (h:=?_))|(refine s_call (g6) (h:=?_))|(refine p_call (g6) (h:=?_))|(refine go_ ?_;((repeat' first|exact True.intro|refine Two.mk ?_ ?_);all_goals intros))|fail "")
      all_goals refine ends_ (hr:=?_)
      all_goals simp only [reduceCtorEq,false_and,true_and,false_or,and_false,and_true,or_false,not_true_eq_false,not_false_eq_true,or_true,true_or,if_true,if_false]
      all_goals first
        | (rw [if_pos (by omega)] <;> rfl)
        | (rw [if_neg (by omega)] <;> rfl)
        | rfl
end Go.Proofs.YtendheafcbickaaGreat
