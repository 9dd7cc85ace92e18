
import Derived.Test.YtendheafcbickaaGreatZip
import Derived.Test.YtendheafcbickaaGreatGo
import Derived.Test.YtendheafcbickaaGreatClC
import Derived.Test.YtendheafcbickaaGreatMg47
import Derived.Test.YtendheafcbickaaGreatCells
import Derived.Test.YtendheafcbickaaGreatCellsU
set_option linter.unusedSimpArgs false
set_option linter.unusedVariables false
namespace Go.Proofs.YtendheafcbickaaGreat.clientAsksUpto
open Go.ChangeShapes Go.WideShapes Go.ChangeAt Go.RowKit
set_option maxRecDepth 100000
attribute [local irreducible] Run RunL QStep GStep Fn Less PL FnM
theorem zeroWf:wfClient default:=by
  unfold wfClient wfConn wfSpace wfPace wfFlow I64 U64
  refine ⟨by decide,by decide,by decide,by decide,by decide,by decide,⟨by decide,by decide,(fun y hy=>by cases hy),by decide,by decide,(fun y hy=>by cases hy),by decide,(fun y hy=>by cases hy)⟩,by decide,by decide,by decide,by decide,by decide,by decide,by decide,(fun y hy=>by cases hy),by decide,(fun y hy=>by cases hy),by decide,by decide,by decide⟩
theorem askWf (c:DClient) (now:Int) (b:List UInt8) (hu:U.wfClient c):wfClient (clAskR c now b).1∧(clAskR c now b).2.2.1.length≤3:=by
  have hw:=U.wf_leClient c hu
  unfold clAskR
  split
  · rename_i h0
    have hI:=clChk h0 hu
    split
    · split
      · rename_i h1
        have hO:=openR_I hI.j hI.l h1
        split
        · rename_i h2
          have hW:=writeR_I hO.1 hO.2.1 h2
          obtain ⟨a1,a2⟩:=tolds_I (now:=now) (by omega:(4194304:Nat)≤16777216) 3 (hI.cn hW.1 hW.2)
          exact ⟨W.wf_leClient _ (a1.wf (by omega)),a2⟩
        · exact ⟨hw,by simp⟩
      · exact ⟨hw,by simp⟩
    · exact ⟨zeroWf,by simp⟩
  · exact ⟨zeroWf,by simp⟩
theorem tickWf (c:DClient) (now:Int) (hu:U.wfClient c):wfClient (clTickR c now).1∧(clTickR c now).2.1.length≤3:=by
  unfold clTickR
  split
  · rename_i h0
    have hI:=clChk h0 hu
    split
    · rename_i h1
      have hO:=tickR_I hI.j hI.l h1
      obtain ⟨a1,a2⟩:=tolds_I (now:=now) (by omega:(4194304:Nat)≤16777216) 3 (hI.cn hO.1 hO.2)
      exact ⟨W.wf_leClient _ (a1.wf (by omega)),a2⟩
    · exact ⟨zeroWf,by simp⟩
  · exact ⟨zeroWf,by simp⟩
set_option maxHeartbeats 2000000 in
theorem sameLists_refl (l:List (List UInt8)) (hl:l.length≤1000):Fn Tryz.prog 21 [.ro (l.map encBs),.ro (l.map encBs)] (.lit (.bool true)):=by
  refine fn_of_run (by kernel_rfl) Tryz.func21 rfl (by kernel_rfl) ?_
  (repeat' first|(refine go_ ?_;((repeat' first|exact True.intro|refine Two.mk ?_ ?_);all_goals intros))|fail "")
  all_goals try (exfalso;omega)
  refine r_for (fun k:Nat=>⟨[(0,.ro (l.map encBs)),(1,.ro (l.map encBs)),(5,.lit (.bool true)),(6,.lit (.int .i64 k))],[],0,Tryz.f21.ntmps⟩)
    (fun k=>k≤l.length) (fun k=>l.length - k) 0 (Nat.zero_le _) less_to ?_
  intro k hk
  by_cases hkn:k<l.length
  · (repeat' first|(refine go_ ?_;((repeat' first|exact True.intro|refine Two.mk ?_ ?_);all_goals intros))|fail "")
    all_goals first
      | (refine ⟨k+1,?_,?_,?_⟩;rotate_left 2;(exact lessA_);(exact Z69_);(exact Z67_))
      | (exfalso;rename_i h;exact h rfl)
      | skip
  · (repeat' first|(refine go_ ?_;((repeat' first|exact True.intro|refine Two.mk ?_ ?_);all_goals intros))|fail "")
    all_goals first
      | exact ends_ (hr:=rfl)
      | skip
set_option maxHeartbeats 4000000 in
theorem law_fn (c:DClient) (now:Int) (b:List UInt8) (hu:U.wfClient c) (hb:b.length≤1048576):Fn Tryz.prog 5 [.agg (encClient c),.lit (.int .i64 now),.ro (b.map encB)] (.lit (.bool true)):=by
  have g1:=clAsk_fn c now b hu hb
  have g2:=clAsked_fn c now b hu hb
  have g3:=clTick_fn c now hu
  have g4:=clTicked_fn c now hu
  obtain ⟨q1,q2⟩:=askWf c now b hu
  obtain ⟨q3,q4⟩:=tickWf c now hu
  have g5:=sameClient_refl _ q1
  have g6:=sameLists_refl _ (Nat.le_trans q2 (by omega))
  have g7:=sameClient_refl _ q3
  have g8:=sameLists_refl _ (Nat.le_trans q4 (by omega))
  clear hu q1 q2 q3 q4
  generalize clAskR c now b=x at *
  generalize clTickR c now=y at *
  obtain ⟨x,i,l,e⟩:=x
  obtain ⟨y,m,f⟩:=y
  unfold encAsk at g1 g2
  unfold encTk at g3 g4
  dsimp only at *
  refine fn_of_run (by kernel_rfl) Tryz.func5 rfl (by kernel_rfl) ?_
  (repeat' first|(refine s_call (g1) (h:=?_))|(refine p_call (g1) (h:=?_))|(refine s_call (g2) (h:=?_))|(refine p_call (g2) (h:=?_))|(refine s_call (g3) (h:=?_))|(refine p_call (g3) (h:=?_))|(refine s_call (g4) (h:=?_))|(refine p_call (g4) (h:=?_))|(refine s_call (g5) (h:=?_))|(refine p_call (g5) (h:=?_))|(refine s_call (g6) (h:=?_))|(refine p_call (g6) (h:=?_))|(refine s_call (g7) (h:=?_))|(refine p_call (g7) (h:=?_))|(refine s_call (g8) (h:=?_))|(refine p_call (g8) (h:=?_))|(refine go_ ?_;((repeat' first|exact True.intro|refine Two.mk ?_ ?_);all_goals intros))|fail "")
  all_goals first
    | exact ends_ (hr:=rfl)
    | (exfalso;simp at *;done)
    | skip
theorem walk (W:World) (v0:Value) (v1:Value) (v2:Value) (h0:U.ArgIs Tryz.prog W 53 v0) (h1:U.ArgIs Tryz.prog W 3 v1) (h2:U.ArgIs Tryz.prog W 29 v2) :
    Calls Tryz.prog 5 #[v0,v1,v2] W fun e W'=>e = .returned (.bool true)∧Below W.heap.size W W':=by
  obtain ⟨c0,rfl,g0⟩:=h0.struct_ Tryz.underlying53
  obtain ⟨x0,r0,w0⟩:=U.rClient_of_cells _ g0
  obtain ⟨x1,rfl,w1⟩:=h1.int_ Tryz.underlying3
  replace w1:=i64_of_wf w1
  obtain ⟨a2,n2,b2,rfl,g2⟩:=h2.slice_ Tryz.underlying29
  obtain ⟨x2,r2,w2,u2⟩:=U.rd_of_slice (enc:=encB) (wf:=fun _=>True) (size:=1) (bytes:=1) Tryz.underlying29 (by kernel_rfl) (by kernel_rfl) (by decide) (fun es h=>U.rdB_of_cells Tryz.underlying5 es h) g2
  exact law_of_fn (law_fn x0 x1 x2 w0 (by omega)) (.cons (argv_agg r0) (.cons (argv_lit rfl) (.cons (argv_ro r2) (.nil))))
set_option maxRecDepth 100000 in
theorem lifted (os:Os) (started:os.Started) (H:Type) (enc:TypeId×Value→H) (F:Stop.Interp) :
    ReturnsInHanded {} Tryz.checked os 5 .any ((Rows.OpenSpec.upto Rows.clientAsksSpec).pre6 enc Tryz.prog Tryz.f5 Rows.clientAsksUptoRow.domain false) (((Rows.OpenSpec.upto Rows.clientAsksSpec).at F).post enc Tryz.prog Tryz.f5 false true false false):=
  U.law_lifted (C:=Tryz.checked) (s:=Rows.clientAsksSpec) (by kernel_rfl) started (by kernel_rfl) Tryz.func5
    (OpenSpec.witness (enc:=enc) (C:=Tryz.checked) (s:=Rows.OpenSpec.upto Rows.clientAsksSpec) (k:=Rows.uptoSmall) rfl false ⟨#[],#[.agg #[.int .i64 0,.int .i64 0,.int .u64 0,.slice none 0 0,.int .i64 0,.int .u64 0,.bool false,.int .i64 0,.slice none 0 0,.int .i64 0,.slice none 0 0,.slice none 0 0,.int .i64 0,.int .i64 0,.int .i64 0,.int .i64 0,.int .i64 0,.int .i64 0,.int .i64 0,.int .i64 0,.int .i64 0,.int .i64 0,.int .i64 0,.slice none 0 0,.bool false,.slice none 0 0,.int .i64 0,.int .i64 0,.bool false,.int .i64 0],.int .i64 0,.slice none 0 0],[]⟩ 8 (by kernel_rfl) (by kernel_rfl) (by kernel_rfl)
      (x:=([.agg [.lit (.int .i64 0),.lit (.int .i64 0),.lit (.int .u64 0),.nil,.lit (.int .i64 0),.lit (.int .u64 0),.agg [.lit (.bool false),.agg [.lit (.int .i64 0),.nil,.lit (.int .i64 0),.nil,.nil],.agg [.lit (.int .i64 0),.lit (.int .i64 0),.lit (.int .i64 0),.lit (.int .i64 0)],.agg [.lit (.int .i64 0),.lit (.int .i64 0)],.agg [.lit (.int .i64 0),.lit (.int .i64 0)],.lit (.int .i64 0),.lit (.int .i64 0),.lit (.int .i64 0),.nil,.lit (.bool false),.nil,.lit (.int .i64 0),.lit (.int .i64 0),.lit (.bool false),.lit (.int .i64 0)]],.lit (.int .i64 0),.nil],[],[])) (by kernel_rfl) rfl (by kernel_rfl))
    (by kernel_rfl) rfl (fun ds hd=>by
      match ds,hd with
      | [_,_,_],_=>rfl) rfl Tryz.underlying4 (by kernel_rfl)
    (fun W args h=>by
      rw [Tryz.params5] at h
      obtain ⟨v0,l0,e0,h0,r0⟩:=h
      obtain ⟨v1,l1,e1,h1,r1⟩:=r0
      obtain ⟨v2,l2,e2,h2,r2⟩:=r1
      have r2':l2=[]:=r2
      obtain rfl:args = #[v0,v1,v2]:=by
        apply Array.toList_inj.1
        rw [e0,e1,e2,r2']
      exact walk W v0 v1 v2 h0 h1 h2)
set_option maxHeartbeats 16000000 in
theorem closed:joinedFacts Tryz.pinned.checked.prog 5 Tryz.f5 ((Rows.OpenSpec.upto Rows.clientAsksSpec).bare) Rows.clientAsksUptoRow=true:=by
  unfold joinedFacts
  simp only [Bool.and_eq_true]
  repeat' apply And.intro
  all_goals decide +kernel
theorem over:Rows.clientAsksUptoRow.holds Tryz.pinned (Rows.OpenSpec.upto Rows.clientAsksSpec):=
  OpenClaim.holds_of_cond 5 Tryz.f5 rfl rfl rfl rfl rfl rfl rfl ⟨rfl,rfl,rfl,rfl,rfl⟩ rfl rfl rfl rfl rfl (by kernel_rfl) Tryz.func5 closed
    (of_decide_eq_true (by kernel_rfl)) (by unfold Func.isWrapper;first|(rw [if_pos (by decide +kernel)];kernel_rfl)|(rw [if_neg (by decide +kernel)];exact ⟨rfl,rfl⟩))
    (fun os started H enc _ F=>lifted os started H enc F)
theorem proved:Rows.ClientAsksUptoSaid:=over
#print axioms proved
end Go.Proofs.YtendheafcbickaaGreat.clientAsksUpto
