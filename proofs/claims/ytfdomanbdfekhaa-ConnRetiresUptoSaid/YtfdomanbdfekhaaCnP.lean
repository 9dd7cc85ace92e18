/-
  conn.Open and the reference's ConnOpened: what each answers.
-/
import Derived.Test.YtfdomanbdfekhaaGo
import Derived.Test.YtfdomanbdfekhaaCnO
set_option linter.unusedVariables false
set_option linter.unusedSimpArgs false
set_option linter.unusedVariables false
namespace Go.Proofs.Ytfdomanbdfekhaa
set_option maxRecDepth 100000
attribute [local irreducible] Run RunL QStep GStep Fn Less PL FnM

theorem cn_room {c : DConn} (h : cnOk c) : c.Lanes.length ≤ 4 ∧ c.Queue.length ≤ 12 ∧ 0 ≤ c.Opened ∧ c.Opened ≤ 4611686018427387903 := by
  have := h.1.1.1.2
  unfold cnNum at this
  omega
set_option maxHeartbeats 4000000 in
theorem opened_fn (c : DConn) (hl : c.Lanes.length ≤ 1000000) (ho : 0 ≤ c.Opened ∧ c.Opened ≤ 4611686018427387903) : Fn Try.prog 55 [.agg (encConn c)] (.agg (encConn (cnOpened c))) := by
  unfold cnOpened
  generalize hZ : encConn { c with Lanes := c.Lanes ++ [lnNew c.Opened], Opened := c.Opened + 1 } = Z
  unfold encConn at hZ
  dsimp only at hZ
  subst hZ
  refine fn_of_run (by kernel_rfl) Try.func55 rfl (by kernel_rfl) ?_
  (repeat' first | (refine s_app (r := c.Lanes.map encLane) ?_ ?_ ?_ ?_ (h := ?_); (focus (first | with_reducible rfl | with_reducible exact List.nil_append _ | with_reducible exact (List.map_append ..).symm | (rw [take_snoc (by assumption), List.map_append]; rfl) | (rw [List.map_append]; rfl) | (simp; done))); (focus (first | exact len_none | exact len_one rfl | exact len_two rfl rfl | exact len_enc (fun _ => rfl))); (focus ((conv => lhs; rhs; whnf); simp only [List.length_map, List.length_append, List.length_cons, List.length_nil, List.length_take]; omega)); (focus (simp only [List.length_map, List.length_append, List.length_cons, List.length_nil, List.length_take]; omega))) | (refine s_app0R (r := c.Lanes.map encLane) ?_ ?_ ?_ ?_ (h := ?_); (focus (first | with_reducible rfl | with_reducible exact List.nil_append _ | with_reducible exact (List.map_append ..).symm | (rw [take_snoc (by assumption), List.map_append]; rfl) | (rw [List.map_append]; rfl) | (simp; done))); (focus (first | exact len_none | exact len_one rfl | exact len_two rfl rfl | exact len_enc (fun _ => rfl))); (focus ((conv => lhs; rhs; whnf); simp only [List.length_map, List.length_append, List.length_cons, List.length_nil, List.length_take]; omega)); (focus (simp only [List.length_map, List.length_append, List.length_cons, List.length_nil, List.length_take]; omega))) | (refine p_app (r := c.Lanes.map encLane) ?_ ?_ ?_ ?_ (h := ?_); (focus (first | with_reducible rfl | with_reducible exact List.nil_append _ | with_reducible exact (List.map_append ..).symm | (rw [take_snoc (by assumption), List.map_append]; rfl) | (rw [List.map_append]; rfl) | (simp; done))); (focus (first | exact len_none | exact len_one rfl | exact len_two rfl rfl | exact len_enc (fun _ => rfl))); (focus ((conv => lhs; rhs; whnf); simp only [List.length_map, List.length_append, List.length_cons, List.length_nil, List.length_take]; omega)); (focus (simp only [List.length_map, List.length_append, List.length_cons, List.length_nil, List.length_take]; omega))) | (refine p_app0R (r := c.Lanes.map encLane) ?_ ?_ ?_ ?_ (h := ?_); (focus (first | with_reducible rfl | with_reducible exact List.nil_append _ | with_reducible exact (List.map_append ..).symm | (rw [take_snoc (by assumption), List.map_append]; rfl) | (rw [List.map_append]; rfl) | (simp; done))); (focus (first | exact len_none | exact len_one rfl | exact len_two rfl rfl | exact len_enc (fun _ => rfl))); (focus ((conv => lhs; rhs; whnf); simp only [List.length_map, List.length_append, List.length_cons, List.length_nil, List.length_take]; omega)); (focus (simp only [List.length_map, List.length_append, List.length_cons, List.length_nil, List.length_take]; omega))) | (refine s_app (r := c.Lanes.map encLane ++ [lnRaw c.Opened]) ?_ ?_ ?_ ?_ (h := ?_); (focus (first | (rfl) | with_reducible rfl | with_reducible exact List.nil_append _ | with_reducible exact (List.map_append ..).symm | (rw [take_snoc (by assumption), List.map_append]; rfl) | (rw [List.map_append]; rfl) | (simp; done))); (focus (first | exact len_none | exact len_one rfl | exact len_two rfl rfl | exact len_enc (fun _ => rfl))); (focus ((conv => lhs; rhs; whnf); simp only [List.length_map, List.length_append, List.length_cons, List.length_nil, List.length_take]; omega)); (focus (simp only [List.length_map, List.length_append, List.length_cons, List.length_nil, List.length_take]; omega))) | (refine s_app0R (r := c.Lanes.map encLane ++ [lnRaw c.Opened]) ?_ ?_ ?_ ?_ (h := ?_); (focus (first | (rfl) | with_reducible rfl | with_reducible exact List.nil_append _ | with_reducible exact (List.map_append ..).symm | (rw [take_snoc (by assumption), List.map_append]; rfl) | (rw [List.map_append]; rfl) | (simp; done))); (focus (first | exact len_none | exact len_one rfl | exact len_two rfl rfl | exact len_enc (fun _ => rfl))); (focus ((conv => lhs; rhs; whnf); simp only [List.length_map, List.length_append, List.length_cons, List.length_nil, List.length_take]; omega)); (focus (simp only [List.length_map, List.length_append, List.length_cons, List.length_nil, List.length_take]; omega))) | (refine p_app (r := c.Lanes.map encLane ++ [lnRaw c.Opened]) ?_ ?_ ?_ ?_ (h := ?_); (focus (first | (rfl) | with_reducible rfl | with_reducible exact List.nil_append _ | with_reducible exact (List.map_append ..).symm | (rw [take_snoc (by assumption), List.map_append]; rfl) | (rw [List.map_append]; rfl) | (simp; done))); (focus (first | exact len_none | exact len_one rfl | exact len_two rfl rfl | exact len_enc (fun _ => rfl))); (focus ((conv => lhs; rhs; whnf); simp only [List.length_map, List.length_append, List.length_cons, List.length_nil, List.length_take]; omega)); (focus (simp only [List.length_map, List.length_append, List.length_cons, List.length_nil, List.length_take]; omega))) | (refine p_app0R (r := c.Lanes.map encLane ++ [lnRaw c.Opened]) ?_ ?_ ?_ ?_ (h := ?_); (focus (first | (rfl) | with_reducible rfl | with_reducible exact List.nil_append _ | with_reducible exact (List.map_append ..).symm | (rw [take_snoc (by assumption), List.map_append]; rfl) | (rw [List.map_append]; rfl) | (simp; done))); (focus (first | exact len_none | exact len_one rfl | exact len_two rfl rfl | exact len_enc (fun _ => rfl))); (focus ((conv => lhs; rhs; whnf); simp only [List.length_map, List.length_append, List.length_cons, List.length_nil, List.length_take]; omega)); (focus (simp only [List.length_map, List.length_append, List.length_cons, List.length_nil, List.length_take]; omega))) | (refine goU_ 2 ?_; ((repeat' first | exact True.intro | refine Two.mk ?_ ?_); all_goals intros)) | fail "")
  refine r_less (st' := ⟨[(1, .ptr 0 0 0 0), (2, .ptr 1 0 0 0)], [(0, some (.box 59 [.lit (.bool c.Client), .lit (.int .i64 c.Space.Next), .ro (c.Space.Sent.map encParcel), .lit (.int .i64 c.Space.Top), .ro (c.Space.Heard.map encRange), .ro (c.Space.Skip.map encI), .lit (.int .i64 c.Pace.Window), .lit (.int .i64 c.Pace.Thresh), .lit (.int .i64 c.Pace.Flying), .lit (.int .i64 c.Pace.Since), .lit (.int .i64 c.Flow.Max), .lit (.int .i64 c.Flow.Used), .lit (.int .i64 c.Credit.Max), .lit (.int .i64 c.Credit.Used), .lit (.int .i64 c.Ids), .lit (.int .i64 c.Grant), .lit (.int .i64 c.Opened), .own 2, .lit (.bool c.Owes), .ro (c.Queue.map encFrame), .lit (.int .i64 c.Last), .lit (.int .i64 c.Resets), .lit (.bool c.Closed), .lit (.int .i64 c.Code)])), (1, some (.box 59 [.lit (.bool false), .lit (.int .i64 0), .lit (.slice none 0 0), .lit (.int .i64 0), .lit (.slice none 0 0), .lit (.slice none 0 0), .lit (.int .i64 0), .lit (.int .i64 0), .lit (.int .i64 0), .lit (.int .i64 0), .lit (.int .i64 0), .lit (.int .i64 0), .lit (.int .i64 0), .lit (.int .i64 0), .lit (.int .i64 0), .lit (.int .i64 0), .lit (.int .i64 0), .lit (.slice none 0 0), .lit (.bool false), .lit (.slice none 0 0), .lit (.int .i64 0), .lit (.int .i64 0), .lit (.bool false), .lit (.int .i64 0)])), (2, some (.row 101 16 (c.Lanes.map encLane ++ [lnRaw c.Opened])))], 3, Try.f55.ntmps⟩) (by (exact lessA_)) ?_
  refine r_less (less_rowS (e := 101) (s := 16) (l := c.Lanes.map encLane) (c := lnRaw c.Opened) (c' := encLane (lnNew c.Opened)) (id := 2) rfl (lnRaw_wk c.Opened) rfl) ?_
  rw [show c.Lanes.map encLane ++ [encLane (lnNew c.Opened)] = (c.Lanes ++ [lnNew c.Opened]).map encLane from (by rw [List.map_append]; rfl)]
  (repeat' first | (refine go_ ?_; ((repeat' first | exact True.intro | refine Two.mk ?_ ?_); all_goals intros)) | fail "")
  all_goals first
    | (exact endwA_)
    | skip
set_option maxHeartbeats 4000000 in
theorem connOpened_fn (c : DConn) (hu : U.wfConn c) : Fn Try.prog 24 [.agg (encConn c)] (encCnIE (cnOpenR c)) := by
  have h1 := connFault_fn c hu
  have hll : c.Lanes.length ≤ 1000000000 := by have := hu.2.2.2.2.2.2.2.1; omega
  clear hu
  unfold cnOpenR encCnIE
  rcases cnFlt_cases c with ⟨h0, hok⟩ | ⟨h0, hok⟩
  · rw [h0] at h1 ⊢
    rw [if_pos rfl]
    obtain ⟨r1, r2, r3, r4⟩ := cn_room hok
    have h2 := opened_fn c (by omega) ⟨r3, r4⟩
    clear hok h0
    obtain ⟨b0, space, pace, flow, credit, ids, grant, opened, lanes, b1, queue, last, resets, b2, code⟩ := c
    dsimp only at *
    cases b2 <;> cases b0
    all_goals
      by_cases hf : opened ≥ ids ∨ lanes.length = 4
      all_goals
        first | rw [if_pos rfl] | rw [if_neg (by decide)]
        first | rw [if_pos rfl] | rw [if_neg (by decide)] | skip
        first | rw [if_pos hf] | rw [if_neg hf] | skip
        refine fn_of_run (by kernel_rfl) Try.func24 rfl (by kernel_rfl) ?_
        (repeat' first | (refine s_call (h1) (h := ?_)) | (refine p_call (h1) (h := ?_)) | (refine s_call (h2) (h := ?_)) | (refine p_call (h2) (h := ?_)) | (refine go_ ?_; ((repeat' first | exact True.intro | refine Two.mk ?_ ?_); all_goals intros)) | fail "")
        all_goals (try dsimp only at *)
        all_goals first
          | (exact endwA_)
          | (exfalso; omega)
          | skip
  · rw [h0] at h1 ⊢
    rw [if_neg (by decide)]
    refine fn_of_run (by kernel_rfl) Try.func24 rfl (by kernel_rfl) ?_
    (repeat' first | (refine s_call (h1) (h := ?_)) | (refine p_call (h1) (h := ?_)) | (refine go_ ?_; ((repeat' first | exact True.intro | refine Two.mk ?_ ?_); all_goals intros)) | fail "")
    all_goals first
      | (exact endwA_)
      | skip
set_option maxHeartbeats 4000000 in
theorem connOpen_fn (c : DConn) (hw : wfConn c) : Fn Try.prog 23 [.agg (encConn c)] (encCnIE (cnOpenR c)) := by
  have h1 := connCheck_fn c hw
  have h2 := cfresh_fnm c hw
  have hll : c.Lanes.length ≤ 1000000000000000 := by have := hw.2.2.2.2.2.2.2.1; omega
  clear hw
  unfold cnOpenR encCnIE
  rcases cnFlt_cases c with ⟨h0, hok⟩ | ⟨h0, hok⟩
  · rw [h0] at h1 ⊢
    rw [if_pos rfl]
    obtain ⟨r1, r2, r3, r4⟩ := cn_room hok
    have h3 := endOpen_fnm c (by omega) ⟨by omega, by omega⟩ (by omega)
    unfold connC cnOpened at h3
    unfold connC at h2
    dsimp only at h3
    clear hok h0
    obtain ⟨b0, space, pace, flow, credit, ids, grant, opened, lanes, b1, queue, last, resets, b2, code⟩ := c
    dsimp only at *
    have hin : lanes.length < ((lanes ++ [lnNew opened]).map encLane).length := by simp
    have hat : eAt ((lanes ++ [lnNew opened]).map encLane) lanes.length = encLane (lnNew opened) := by
      rw [List.map_append, eAt_append, if_neg (by simp)]
      simp [eAt]
    cases b2 <;> cases b0
    all_goals
      by_cases hf : opened ≥ ids ∨ lanes.length = 4
      all_goals
        first | rw [if_pos rfl] | rw [if_neg (by decide)]
        first | rw [if_pos rfl] | rw [if_neg (by decide)] | skip
        first | rw [if_pos hf] | rw [if_neg hf] | skip
        refine fn_of_run (by kernel_rfl) Try.func23 rfl (by kernel_rfl) ?_
        (repeat' first | (refine s_call (h1) (h := ?_)) | (refine p_call (h1) (h := ?_)) | (refine s_callM [] (h2) (h := ?_)) | (refine s_callM0 [] (h2) (h := ?_)) | (refine p_callN (h2) (h := ?_)) | (refine s_callM [4, 2, 3] (h3) (h := ?_)) | (refine s_callM0 [4, 2, 3] (h3) (h := ?_)) | (refine p_callM [4, 2, 3] (h3) (h := ?_)) | (refine go_ ?_; ((repeat' first | exact True.intro | refine Two.mk ?_ ?_); all_goals intros)) | fail "")
        all_goals first
          | (refine s_i (hq := q_load_one rfl rfl rfl (reads_row rfl hin rfl hat) rfl) (h := ?_); (repeat' first | (refine go_ ?_; ((repeat' first | exact True.intro | refine Two.mk ?_ ?_); all_goals intros)) | fail ""))
          | skip
        all_goals (try dsimp only at *)
        all_goals first
          | (exact endwA_)
          | (exfalso; omega)
          | skip
  · rw [h0] at h1 ⊢
    rw [if_neg (by decide)]
    refine fn_of_run (by kernel_rfl) Try.func23 rfl (by kernel_rfl) ?_
    (repeat' first | (refine s_call (h1) (h := ?_)) | (refine p_call (h1) (h := ?_)) | (refine go_ ?_; ((repeat' first | exact True.intro | refine Two.mk ?_ ?_); all_goals intros)) | fail "")
    all_goals first
      | (exact endwA_)
      | skip
end Go.Proofs.Ytfdomanbdfekhaa
