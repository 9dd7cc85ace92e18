
import Derived.Test.YtendheafcbickaaGreatHZip
import Derived.Test.YtendheafcbickaaGreatHGo
import Derived.Test.YtendheafcbickaaGreatHMg06
import Derived.Test.YtendheafcbickaaGreatHMg07
import Derived.Test.YtendheafcbickaaGreatHMg09
import Derived.Test.YtendheafcbickaaGreatHMg10
set_option linter.unusedVariables false
set_option linter.unusedSimpArgs false
set_option linter.unusedVariables false
namespace Go.Proofs.YtendheafcbickaaGreat
set_option maxRecDepth 100000
attribute [local irreducible] Run RunL QStep GStep Fn Less PL FnM
def cnA (c:DConn):Prop:=spFlt c.Space=0∧paceFlt c.Pace=0∧flwFlt c.Flow=0∧flwFlt c.Credit=0
def cnNum (c:DConn):Prop:=0≤c.Ids∧c.Ids≤4611686018427387903∧0≤c.Grant∧c.Grant≤4611686018427387903∧0≤c.Opened∧(c.Opened≤c.Ids∨c.Opened≤c.Grant)∧c.Lanes.length≤4∧c.Queue.length≤12∧0≤c.Last∧c.Last≤1099511627776∧0≤c.Resets∧c.Resets≤4
def lnPrev (l:List DLane) (i:Nat):Int:=if i=0 then -1 else (l.getD (i - 1) default).Id
theorem lnPrev_0 (l:List DLane):lnPrev l 0 = -1:=rfl
theorem lnPrev_s (l:List DLane) (i:Nat):lnPrev l (i+1)=(l.getD i default).Id:=by
  unfold lnPrev
  rw [if_neg (by omega),Nat.add_sub_cancel]
def lnOk (c:DConn) (i:Nat):Prop:=lnPrev c.Lanes i<(c.Lanes.getD i default).Id∧(c.Lanes.getD i default).Id<c.Opened∧gatherFlt (c.Lanes.getD i default).In=0∧sndFlt (c.Lanes.getD i default).Out=0∧(c.Lanes.getD i default).Read.length≤800
def frsOk (l:List DFrame) (n:Nat):Prop:=AllTo (fun i=>frFlt (l.getD i default)=0) n
def cnOk (c:DConn):Prop:=(((cnA c∧cnNum c)∧AllTo (lnOk c) c.Lanes.length)∧frsOk c.Queue c.Queue.length)∧AllTo (fun i=>frsOk (c.Space.Sent.getD i default).Frames (c.Space.Sent.getD i default).Frames.length) c.Space.Sent.length
noncomputable def cnFlt (c:DConn):Int:=if yes (cnOk c)=true then 0 else 9
theorem cnFlt_t {c:DConn} (h:cnOk c):cnFlt c=0:=if_pos (yes_of h)
theorem cnFlt_f {c:DConn} (h:¬ cnOk c):cnFlt c=9:=if_neg (by rw [no_of h];exact Bool.false_ne_true)
theorem cnFlt_cases (c:DConn):(cnFlt c=0∧cnOk c)∨(cnFlt c=9 ∧ ¬ cnOk c):=by
  by_cases h:cnOk c
  · exact .inl ⟨cnFlt_t h,h⟩
  · exact .inr ⟨cnFlt_f h,h⟩
set_option maxHeartbeats 4000000 in
theorem connCheck_fn (c:DConn) (hw:wfConn c):Fn Tryz.prog 58 [.agg (encConn c)] (.lit (.int .i64 (cnFlt c))):=by
  obtain ⟨w0,w1,w2,w3,w4,w5,w6,w7,w8,w9,w10,w11,w12,w13⟩:=hw
  have l2:c.Space.Sent.length≤1000000000000000:=by have:=w0.2.1;omega
  have l3:∀ y,y ∈ c.Space.Sent→wfParcel y:=w0.2.2.1
  have h1:=spaceCheck_fn c.Space w0
  have h2:=paceCheck_fn c.Pace
  have h3:=flwCheck_fn c.Flow
  have h4:=flwCheck_fn c.Credit
  clear w0 w1 w2 w3
  unfold I64 at w4 w5 w6 w11 w12 w13
  refine fn_of_run (by kernel_rfl) Tryz.func58 rfl (by kernel_rfl) ?_
  refine r_seq ?_
  refine r_region ?_
  (repeat' first|(refine goS_ ?_;((repeat' first|exact True.intro|refine Two.mk ?_ ?_);all_goals intros))|fail "")
  refine thenQ_n ?_
  refine r_cut (fun ok:Bool=>⟨[(1,.ptr 0 0 0 0),(2,.lit (.int .i64 0)),(3,.lit (.bool ok))],[(0,some (.box 51 (encConn c)))],1,Tryz.f58.ntmps⟩) (fun ok=>ok=true ↔ cnA c) ?_ ?_
  · unfold cnA
    (repeat' first|(refine s_call (h1) (h:=?_))|(refine p_call (h1) (h:=?_))|(refine s_call (h2) (h:=?_))|(refine p_call (h2) (h:=?_))|(refine s_call (h3) (h:=?_))|(refine p_call (h3) (h:=?_))|(refine s_call (h4) (h:=?_))|(refine p_call (h4) (h:=?_))|(refine go_ ?_;((repeat' first|exact True.intro|refine Two.mk ?_ ?_);all_goals intros))|fail "")
    all_goals first
      | (refine ⟨true,?_,?_⟩;rotate_left 1;(exact lessA_);(exact Z62_))
      | (refine ⟨false,?_,?_⟩;rotate_left 1;(exact lessA_);(exact Z56_))
      | skip
  rintro ok hok
  clear h1 h2 h3 h4
  refine r_cut (fun ok:Bool=>⟨[(1,.ptr 0 0 0 0),(2,.lit (.int .i64 0)),(3,.lit (.bool ok))],[(0,some (.box 51 (encConn c)))],1,Tryz.f58.ntmps⟩) (fun ok=>ok=true ↔ cnA c∧cnNum c) ?_ ?_
  · unfold cnNum
    cases ok
    · have hn:¬ cnA c:=fun h=>by have:=hok.2 h;cases this
      clear hok
      (repeat' first|(refine go_ ?_;((repeat' first|exact True.intro|refine Two.mk ?_ ?_);all_goals intros))|fail "")
      all_goals first
        | (refine ⟨false,?_,?_⟩;rotate_left 1;(exact lessA_);(focus (exact ⟨(fun h=>by cases h),fun h=>absurd h.1 hn⟩)))
        | skip
    · have hn:=hok.1 rfl
      clear hok
      (repeat' first|(refine go_ ?_;((repeat' first|exact True.intro|refine Two.mk ?_ ?_);all_goals intros))|fail "")
      all_goals first
        | (refine ⟨true,?_,?_⟩;rotate_left 1;(exact lessA_);(focus (exact ⟨fun _=>⟨hn,by omega⟩,fun _=>rfl⟩)))
        | (refine ⟨false,?_,?_⟩;rotate_left 1;(exact lessA_);(focus (exact ⟨(fun h=>by cases h),fun h=>(by have:=h.2;omega)⟩)))
        | skip
  clear ok hok w4 w5 w6 w11 w12 w13
  rintro ok hok
  have hll:c.Lanes.length≤1000000000000000:=by omega
  have hql:c.Queue.length≤1000000000000000:=by omega
  clear w7 w9
  (repeat' first|(refine go_ ?_;((repeat' first|exact True.intro|refine Two.mk ?_ ?_);all_goals intros))|fail "")
  refine r_for (fun x:Nat×Bool=>⟨[(1,.ptr 0 0 0 0),(2,.lit (.int .i64 0)),(3,.lit (.bool x.2)),(4,.lit (.int .i64 (lnPrev c.Lanes x.1))),(104,.ro (c.Lanes.map encLane)),(105,.lit (.int .i64 c.Lanes.length)),(106,.lit (.int .i64 x.1))],[(0,some (.box 51 (encConn c)))],1,Tryz.f58.ntmps⟩)
    (fun x=>x.1≤c.Lanes.length∧(x.2=true ↔ (cnA c∧cnNum c)∧AllTo (lnOk c) x.1)) (fun x=>c.Lanes.length - x.1) (0,ok) ⟨Nat.zero_le _,by rw [hok];exact ⟨fun h=>⟨h,allTo0⟩,fun h=>h.1⟩⟩ (by (try dsimp only);rw [lnPrev_0];(exact lessA_)) ?_
  clear ok hok
  rintro ⟨k,ok⟩ ⟨hk,hi⟩
  dsimp only at hk hi ⊢
  by_cases hkn:k<c.Lanes.length
  · have hs:=allTo_succ (Q:=lnOk c) (k:=k)
    have hp:=lnPrev_s c.Lanes k
    have hwl:=w8 _ (getD_mem hkn)
    have h1:=gatherCheck_fn _ hwl.2.1
    have h2:=senderCheck_fn _ hwl.2.2.2
    have hwr:=hwl.2.2.1
    cases ok
    · have hi:¬ ((cnA c∧cnNum c)∧AllTo (lnOk c) k):=fun h=>by have:=hi.2 h;cases this
      generalize lnPrev c.Lanes k=pv
      (repeat' first|(refine go_ ?_;((repeat' first|exact True.intro|refine Two.mk ?_ ?_);all_goals intros))|fail "")
      all_goals first
        | (refine ⟨(k+1,false),?_,?_,?_⟩;rotate_left 2;(exact lessA_);(exact Z66_);(exact Z46_))
        | skip
    · obtain ⟨hh,ha⟩:=hi.1 rfl
      unfold lnOk at hs
      generalize lnPrev c.Lanes k=pv at *
      (repeat' first|(refine s_call (h1) (h:=?_))|(refine p_call (h1) (h:=?_))|(refine s_call (h2) (h:=?_))|(refine p_call (h2) (h:=?_))|(refine go_ ?_;((repeat' first|exact True.intro|refine Two.mk ?_ ?_);all_goals intros))|fail "")
      all_goals first
        | (refine ⟨(k+1,true),?_,?_,?_⟩;rotate_left 2;(exact lessA_);(exact Z66_);(exact Z52_))
        | (refine ⟨(k+1,false),?_,?_,?_⟩;rotate_left 2;(exact lessA_);(exact Z66_);(exact Z23_))
        | skip
  have hkl:k=c.Lanes.length:=by omega
  subst hkl
  clear w8 hkn hk
  (repeat' first|(refine go_ ?_;((repeat' first|exact True.intro|refine Two.mk ?_ ?_);all_goals intros))|fail "")
  refine r_for (fun x:Nat×Bool=>⟨[(1,.ptr 0 0 0 0),(2,.lit (.int .i64 0)),(3,.lit (.bool x.2)),(146,.ro (c.Queue.map encFrame)),(147,.lit (.int .i64 c.Queue.length)),(148,.lit (.int .i64 x.1))],[(0,some (.box 51 (encConn c)))],1,Tryz.f58.ntmps⟩)
    (fun x=>x.1≤c.Queue.length∧(x.2=true ↔ ((cnA c∧cnNum c)∧AllTo (lnOk c) c.Lanes.length)∧frsOk c.Queue x.1)) (fun x=>c.Queue.length - x.1) (0,ok) ⟨Nat.zero_le _,by rw [hi];exact ⟨fun h=>⟨h,allTo0⟩,fun h=>h.1⟩⟩ (by (try dsimp only);(exact lessA_)) ?_
  clear ok hi
  rintro ⟨k,ok⟩ ⟨hk,hi⟩
  dsimp only at hk hi ⊢
  by_cases hkn:k<c.Queue.length
  · have hs:=allTo_succ (Q:=fun i=>frFlt (c.Queue.getD i default)=0) (k:=k)
    have h1:=frameCheck_fn _ (w10 _ (getD_mem hkn))
    unfold frsOk at hi
    cases ok
    · have hi:¬ (((cnA c∧cnNum c)∧AllTo (lnOk c) c.Lanes.length)∧AllTo (fun i=>frFlt (c.Queue.getD i default)=0) k):=fun h=>by have:=hi.2 h;cases this
      (repeat' first|(refine go_ ?_;((repeat' first|exact True.intro|refine Two.mk ?_ ?_);all_goals intros))|fail "")
      all_goals first
        | (refine ⟨(k+1,false),?_,?_,?_⟩;rotate_left 2;(exact lessA_);(exact Z66_);(exact Z46_))
        | skip
    · obtain ⟨hh,ha⟩:=hi.1 rfl
      (repeat' first|(refine s_call (h1) (h:=?_))|(refine p_call (h1) (h:=?_))|(refine go_ ?_;((repeat' first|exact True.intro|refine Two.mk ?_ ?_);all_goals intros))|fail "")
      all_goals first
        | (refine ⟨(k+1,true),?_,?_,?_⟩;rotate_left 2;(exact lessA_);(exact Z66_);(exact Z50_))
        | (refine ⟨(k+1,false),?_,?_,?_⟩;rotate_left 2;(exact lessA_);(exact Z66_);(exact Z23_))
        | skip
  have hkl:k=c.Queue.length:=by omega
  subst hkl
  clear w10 hkn hk
  (repeat' first|(refine go_ ?_;((repeat' first|exact True.intro|refine Two.mk ?_ ?_);all_goals intros))|fail "")
  generalize hB:(((cnA c∧cnNum c)∧AllTo (lnOk c) c.Lanes.length)∧frsOk c.Queue c.Queue.length)=B at hi
  refine r_for (fun x:Nat×Bool=>⟨[(2,.lit (.int .i64 0)),(3,.lit (.bool x.2)),(161,.ro (c.Space.Sent.map encParcel)),(162,.lit (.int .i64 c.Space.Sent.length)),(163,.lit (.int .i64 x.1))],[],0,Tryz.f58.ntmps⟩)
    (fun x=>x.1≤c.Space.Sent.length∧(x.2=true ↔ B∧AllTo (fun i=>frsOk (c.Space.Sent.getD i default).Frames (c.Space.Sent.getD i default).Frames.length) x.1)) (fun x=>c.Space.Sent.length - x.1) (0,ok) ⟨Nat.zero_le _,by rw [hi];exact ⟨fun h=>⟨h,allTo0⟩,fun h=>h.1⟩⟩ (by (try dsimp only);(exact lessA_)) ?_
  clear ok hi
  rintro ⟨k,ok⟩ ⟨hk,hi⟩
  dsimp only at hk hi ⊢
  by_cases hkn:k<c.Space.Sent.length
  · have hs:=allTo_succ (Q:=fun i=>frsOk (c.Space.Sent.getD i default).Frames (c.Space.Sent.getD i default).Frames.length) (k:=k)
    have hwp:=l3 _ (getD_mem hkn)
    clear l3
    obtain ⟨p1,p2,p3,p4,p5⟩:=hwp
    have hpl:(c.Space.Sent.getD k default).Frames.length≤1000000000000000:=by omega
    (repeat' first|(refine go_ ?_;((repeat' first|exact True.intro|refine Two.mk ?_ ?_);all_goals intros))|fail "")
    refine r_for (fun x:Nat×Bool=>⟨[(2,.lit (.int .i64 0)),(3,.lit (.bool x.2)),(161,.ro (c.Space.Sent.map encParcel)),(162,.lit (.int .i64 c.Space.Sent.length)),(163,.lit (.int .i64 k)),(168,.ro ((c.Space.Sent.getD k default).Frames.map encFrame)),(169,.lit (.int .i64 (c.Space.Sent.getD k default).Frames.length)),(170,.lit (.int .i64 x.1))],[],0,Tryz.f58.ntmps⟩)
      (fun x=>x.1≤(c.Space.Sent.getD k default).Frames.length∧(x.2=true ↔ (B∧AllTo (fun i=>frsOk (c.Space.Sent.getD i default).Frames (c.Space.Sent.getD i default).Frames.length) k)∧frsOk (c.Space.Sent.getD k default).Frames x.1)) (fun x=>(c.Space.Sent.getD k default).Frames.length - x.1) (0,ok) ⟨Nat.zero_le _,by rw [hi];exact ⟨fun h=>⟨h,allTo0⟩,fun h=>h.1⟩⟩ (by (try dsimp only);(exact lessA_)) ?_
    clear ok hi
    rintro ⟨j,ok⟩ ⟨hj,hi⟩
    dsimp only at hj hi ⊢
    by_cases hjn:j<(c.Space.Sent.getD k default).Frames.length
    · have hs:=allTo_succ (Q:=fun i=>frFlt ((c.Space.Sent.getD k default).Frames.getD i default)=0) (k:=j)
      have h1:=frameCheck_fn _ (p5 _ (getD_mem hjn))
      unfold frsOk at hi
      cases ok
      · have hi:¬ ((B∧AllTo (fun i=>frsOk (c.Space.Sent.getD i default).Frames (c.Space.Sent.getD i default).Frames.length) k)∧AllTo (fun i=>frFlt ((c.Space.Sent.getD k default).Frames.getD i default)=0) j):=fun h=>by have:=hi.2 h;cases this
        (repeat' first|(refine go_ ?_;((repeat' first|exact True.intro|refine Two.mk ?_ ?_);all_goals intros))|fail "")
        all_goals first
          | (refine ⟨(j+1,false),?_,?_,?_⟩;rotate_left 2;(exact lessA_);(exact Z66_);(focus (exact ⟨hjn,(fun h=>by cases h),fun h=>absurd ⟨h.1,(hs.1 h.2).1⟩ hi⟩)))
          | skip
      · obtain ⟨hh,ha⟩:=hi.1 rfl
        (repeat' first|(refine s_call (h1) (h:=?_))|(refine p_call (h1) (h:=?_))|(refine go_ ?_;((repeat' first|exact True.intro|refine Two.mk ?_ ?_);all_goals intros))|fail "")
        all_goals first
          | (refine ⟨(j+1,true),?_,?_,?_⟩;rotate_left 2;(exact lessA_);(exact Z66_);(focus (exact ⟨hjn,fun _=>⟨hh,hs.2 ⟨ha,by assumption⟩⟩,fun _=>rfl⟩)))
          | (refine ⟨(j+1,false),?_,?_,?_⟩;rotate_left 2;(exact lessA_);(exact Z66_);(focus (exact ⟨hjn,(fun h=>by cases h),fun h=>(by have h2:=(hs.1 h.2).2;(try dsimp only at h2);omega)⟩)))
          | skip
    have hjl:j=(c.Space.Sent.getD k default).Frames.length:=by omega
    subst hjl
    (repeat' first|(refine go_ ?_;((repeat' first|exact True.intro|refine Two.mk ?_ ?_);all_goals intros))|fail "")
    all_goals first
      | (refine ⟨(k+1,ok),?_,?_,?_⟩;rotate_left 2;(exact lessA_);(exact Z66_);(focus (exact ⟨hkn,by rw [hi,hs];exact ⟨fun h=>⟨h.1.1,h.1.2,h.2⟩,fun h=>⟨⟨h.1,h.2.1⟩,h.2.2⟩⟩⟩)))
      | skip
  have hkl:k=c.Space.Sent.length:=by omega
  subst hkl
  subst hB
  cases ok
  · rw [cnFlt_f (fun h=>by have:=hi.2 h;cases this)]
    (repeat' first|(refine go_ ?_;((repeat' first|exact True.intro|refine Two.mk ?_ ?_);all_goals intros))|fail "")
    all_goals exact ends_ (hr:=rfl)
  · rw [cnFlt_t (hi.1 rfl)]
    (repeat' first|(refine go_ ?_;((repeat' first|exact True.intro|refine Two.mk ?_ ?_);all_goals intros))|fail "")
    all_goals exact ends_ (hr:=rfl)
end Go.Proofs.YtendheafcbickaaGreat
