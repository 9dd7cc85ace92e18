/-
  The laws' sameConn, of a connection and itself. No condition.
-/
import Derived.Test.YtfdomanbdfekhaaGreatGA
import Derived.Test.YtfdomanbdfekhaaGreatSameSpace
import Derived.Test.YtfdomanbdfekhaaGreatGH
import Derived.Test.YtfdomanbdfekhaaGreatGG
set_option linter.unusedVariables false
set_option linter.unusedSimpArgs false
set_option linter.unusedVariables false
namespace Go.Proofs.YtfdomanbdfekhaaGreat
set_option maxRecDepth 100000
attribute [local irreducible] Run RunL QStep GStep Fn Less PL FnM

set_option maxHeartbeats 4000000 in
theorem sameConn_refl (c : DConn) (hw : wfConn c) : Fn Tryz.prog 6 [.agg (encConn c), .agg (encConn c)] (.lit (.bool true)) := by
  obtain ⟨w0, w1, w2, w3, w4, w5, w6, w7, w8, w9, w10, w11, w12, w13⟩ := hw
  have h1 := sameSpace_fn c.Space c.Space w0 w0
  have h2 := sameFrames_fn c.Queue c.Queue (by omega) (by omega) w10 w10
  rw [yes_of rfl] at h1 h2
  have hll : c.Lanes.length ≤ 1000000000000000 := by omega
  clear w0 w1 w2 w3 w4 w5 w6 w9 w10 w11 w12 w13
  obtain ⟨b0, space, pace, flow, credit, ids, grant, opened, lanes, b1, queue, last, resets, b2, code⟩ := c
  dsimp only at *
  generalize hC : encConn ⟨b0, space, pace, flow, credit, ids, grant, opened, lanes, b1, queue, last, resets, b2, code⟩ = C
  unfold encConn at hC
  dsimp only at hC
  subst hC
  refine fn_of_run (by kernel_rfl) Tryz.func6 rfl (by kernel_rfl) ?_
  refine r_seq ?_
  refine r_region ?_
  (repeat' first | (refine goS_ ?_; ((repeat' first | exact True.intro | refine Two.mk ?_ ?_); all_goals intros)) | fail "")
  refine thenQ_n ?_
  refine r_cut (fun _ : Unit => ⟨[(2, .ptr 0 0 0 0), (3, .ptr 1 0 0 0), (5, .lit (.bool true))], [(0, some (.box 34 [.lit (.bool b0), .lit (.int .i64 space.Next), .ro (space.Sent.map encParcel), .lit (.int .i64 space.Top), .ro (space.Heard.map encRange), .ro (space.Skip.map encI), .lit (.int .i64 pace.Window), .lit (.int .i64 pace.Thresh), .lit (.int .i64 pace.Flying), .lit (.int .i64 pace.Since), .lit (.int .i64 flow.Max), .lit (.int .i64 flow.Used), .lit (.int .i64 credit.Max), .lit (.int .i64 credit.Used), .lit (.int .i64 ids), .lit (.int .i64 grant), .lit (.int .i64 opened), .ro (lanes.map encLane), .lit (.bool b1), .ro (queue.map encFrame), .lit (.int .i64 last), .lit (.int .i64 resets), .lit (.bool b2), .lit (.int .i64 code)])), (1, some (.box 34 [.lit (.bool b0), .lit (.int .i64 space.Next), .ro (space.Sent.map encParcel), .lit (.int .i64 space.Top), .ro (space.Heard.map encRange), .ro (space.Skip.map encI), .lit (.int .i64 pace.Window), .lit (.int .i64 pace.Thresh), .lit (.int .i64 pace.Flying), .lit (.int .i64 pace.Since), .lit (.int .i64 flow.Max), .lit (.int .i64 flow.Used), .lit (.int .i64 credit.Max), .lit (.int .i64 credit.Used), .lit (.int .i64 ids), .lit (.int .i64 grant), .lit (.int .i64 opened), .ro (lanes.map encLane), .lit (.bool b1), .ro (queue.map encFrame), .lit (.int .i64 last), .lit (.int .i64 resets), .lit (.bool b2), .lit (.int .i64 code)]))], 2, Tryz.f6.ntmps⟩) (fun _ => True) ?_ ?_
  · cases b0 <;> cases b1 <;> cases b2
    all_goals (repeat' first | (refine s_call (h1) (h := ?_)) | (refine p_call (h1) (h := ?_)) | (refine s_call (h2) (h := ?_)) | (refine p_call (h2) (h := ?_)) | (refine go_ ?_; ((repeat' first | exact True.intro | refine Two.mk ?_ ?_); all_goals intros)) | fail "")
    all_goals first
      | (refine ⟨(), ?_, ?_⟩; rotate_left 1; (exact lessA_); (focus (trivial)))
      | skip
  rintro ⟨⟩ -
  clear h1 h2
  (repeat' first | (refine go_ ?_; ((repeat' first | exact True.intro | refine Two.mk ?_ ?_); all_goals intros)) | fail "")
  refine r_for (fun k : Nat => ⟨[(2, .ptr 0 0 0 0), (3, .ptr 1 0 0 0), (5, .lit (.bool true)), (6, .lit (.int .i64 k))], [(0, some (.box 34 [.lit (.bool b0), .lit (.int .i64 space.Next), .ro (space.Sent.map encParcel), .lit (.int .i64 space.Top), .ro (space.Heard.map encRange), .ro (space.Skip.map encI), .lit (.int .i64 pace.Window), .lit (.int .i64 pace.Thresh), .lit (.int .i64 pace.Flying), .lit (.int .i64 pace.Since), .lit (.int .i64 flow.Max), .lit (.int .i64 flow.Used), .lit (.int .i64 credit.Max), .lit (.int .i64 credit.Used), .lit (.int .i64 ids), .lit (.int .i64 grant), .lit (.int .i64 opened), .ro (lanes.map encLane), .lit (.bool b1), .ro (queue.map encFrame), .lit (.int .i64 last), .lit (.int .i64 resets), .lit (.bool b2), .lit (.int .i64 code)])), (1, some (.box 34 [.lit (.bool b0), .lit (.int .i64 space.Next), .ro (space.Sent.map encParcel), .lit (.int .i64 space.Top), .ro (space.Heard.map encRange), .ro (space.Skip.map encI), .lit (.int .i64 pace.Window), .lit (.int .i64 pace.Thresh), .lit (.int .i64 pace.Flying), .lit (.int .i64 pace.Since), .lit (.int .i64 flow.Max), .lit (.int .i64 flow.Used), .lit (.int .i64 credit.Max), .lit (.int .i64 credit.Used), .lit (.int .i64 ids), .lit (.int .i64 grant), .lit (.int .i64 opened), .ro (lanes.map encLane), .lit (.bool b1), .ro (queue.map encFrame), .lit (.int .i64 last), .lit (.int .i64 resets), .lit (.bool b2), .lit (.int .i64 code)]))], 2, Tryz.f6.ntmps⟩)
    (fun k => k ≤ lanes.length) (fun k => lanes.length - k) 0 (Nat.zero_le _) (by (exact lessA_)) ?_
  intro k hk
  by_cases hkn : k < lanes.length
  · have hf := w8 _ (getD_mem hkn)
    have q1 := hf.2.2.2.2.2.2.1
    have q2 := hf.2.2.2.2.2.2.2.2.1
    have h1 := sameGather_fn _ _ hf.2.1 hf.2.1
    have h2 := sameBytes_fn (lanes.getD k default).Read (lanes.getD k default).Read
    have h3 := sameSender_refl (lanes.getD k default).Out q1 q2
    rw [yes_of rfl] at h1 h2
    clear hf w8
    cases hb1 : (lanes.getD k default).Over <;> cases hb2 : (lanes.getD k default).Cut
    all_goals (repeat' first | (refine s_call (h1) (h := ?_)) | (refine p_call (h1) (h := ?_)) | (refine s_call (h2) (h := ?_)) | (refine p_call (h2) (h := ?_)) | (refine s_call (h3) (h := ?_)) | (refine p_call (h3) (h := ?_)) | (refine go_ ?_; ((repeat' first | exact True.intro | refine Two.mk ?_ ?_); all_goals intros)) | fail "")
    all_goals first
      | (refine ⟨k + 1, ?_, ?_, ?_⟩; rotate_left 2; (exact lessA_); (focus (omega)); (focus (exact hkn)))
      | skip
  · have hkl : k = lanes.length := by omega
    subst hkl
    (repeat' first | (refine go_ ?_; ((repeat' first | exact True.intro | refine Two.mk ?_ ?_); all_goals intros)) | fail "")
    all_goals exact ends_ (hr := rfl)
end Go.Proofs.YtfdomanbdfekhaaGreat
