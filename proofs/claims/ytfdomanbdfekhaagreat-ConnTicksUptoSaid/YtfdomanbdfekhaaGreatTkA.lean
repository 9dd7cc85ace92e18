/-
  conn.Tick: end.again, end.close and end.lost.
-/
import Derived.Test.YtfdomanbdfekhaaGreatGA
import Derived.Test.YtfdomanbdfekhaaGreatTkP
set_option linter.unusedVariables false
set_option linter.unusedSimpArgs false
set_option linter.unusedVariables false
namespace Go.Proofs.YtfdomanbdfekhaaGreat
set_option maxRecDepth 100000
attribute [local irreducible] Run RunL QStep GStep Fn Less PL FnM

set_option maxHeartbeats 8000000 in
theorem endAgain_fnm (c : DConn) (f : DFrame) (hl : c.Lanes.length ≤ 1000000) (hq : c.Queue.length ≤ 12) :
    FnM Tryz.prog 37 [.ptr 0 0 0 0, .agg (encFrame f)] [(0, some (.box 44 (connC c (.own 1) (.own 2)))), (1, some (.row 61 16 (c.Lanes.map encLane))), (2, some (.row 71 7 (c.Queue.map encFrame)))] 3
      (.lit (.int .i64 (againR c f).2)) [(0, some (.box 44 (connC c (.own 1) (.own 3)))), (1, some (.row 61 16 (c.Lanes.map encLane))), (3, some (.row 71 7 ((againR c f).1.map encFrame)))] 4 := by
  have hT := fun g => endTell_fnm c g hq
  have hLn := endLane_fnm c f.Id hl
  have hle := lnIx_le c.Lanes f.Id
  generalize hR : againR c f = R
  obtain ⟨rq, re⟩ := R
  unfold againR agF at hR
  unfold lnP at hLn
  unfold lnOf at hR
  unfold connC at *
  obtain ⟨b0, space, pace, flow, credit, ids, grant, opened, lanes, b1, queue, last, resets, b2, code⟩ := c
  obtain ⟨kd, fid, foff, fin, fcode, frs, fdata⟩ := f
  unfold wOff at hR
  dsimp only at *
  refine fnm_of_run (by kernel_rfl) Tryz.func37 rfl (by kernel_rfl) (by rfl) ?_
  (repeat' first | (refine go_ ?_; ((repeat' first | exact True.intro | refine Two.mk ?_ ?_); all_goals intros)) | fail "")
  refine r_for (fun k : Nat => ⟨[(0, .ptr 0 0 0 0), (3, .ptr 3 0 0 0), (12, .own 4), (13, .lit (.int .i64 queue.length)), (14, .lit (.int .i64 k))], [(0, some (.box 44 [.lit (.bool b0), .lit (.int .i64 space.Next), .ro (space.Sent.map encParcel), .lit (.int .i64 space.Top), .ro (space.Heard.map encRange), .ro (space.Skip.map encI), .lit (.int .i64 pace.Window), .lit (.int .i64 pace.Thresh), .lit (.int .i64 pace.Flying), .lit (.int .i64 pace.Since), .lit (.int .i64 flow.Max), .lit (.int .i64 flow.Used), .lit (.int .i64 credit.Max), .lit (.int .i64 credit.Used), .lit (.int .i64 ids), .lit (.int .i64 grant), .lit (.int .i64 opened), .own 1, .lit (.bool b1), .own 4, .lit (.int .i64 last), .lit (.int .i64 resets), .lit (.bool b2), .lit (.int .i64 code)])), (1, some (.row 61 16 (lanes.map encLane))), (3, some (.box 71 [.lit (.int .i64 kd), .lit (.int .i64 fid), .lit (.int .i64 foff), .lit (.bool fin), .lit (.int .i64 fcode), .ro (frs.map encRange), .ro (fdata.map encB)])), (4, some (.row 71 7 (queue.map encFrame)))], 5, Tryz.f37.ntmps⟩)
    (fun k => k ≤ queue.length ∧ ∀ i, i < k → ¬ ((queue.getD i default).Kind = kd ∧ (queue.getD i default).Id = fid)) (fun k => queue.length - k) 0 ⟨Nat.zero_le _, fun i h => by omega⟩ (by first | exact mv_ 2 | skip) ?_
  rintro k ⟨hk, hno⟩
  by_cases hkn : k < queue.length
  · by_cases he : (queue.getD k default).Kind = kd ∧ (queue.getD k default).Id = fid
    · rw [if_pos (yes_of ⟨k, hkn, he⟩)] at hR
      cases hR
      obtain ⟨e1, e2⟩ := he
      (repeat' first | (refine go_ ?_; ((repeat' first | exact True.intro | refine Two.mk ?_ ?_); all_goals intros)) | fail "")
      all_goals first
        | (exact endmA_)
        | (exfalso; omega)
        | skip
    · (repeat' first | (refine go_ ?_; ((repeat' first | exact True.intro | refine Two.mk ?_ ?_); all_goals intros)) | fail "")
      all_goals first
        | (refine ⟨k + 1, ?_, ?_, ?_⟩; rotate_left 2; (exact lessA_); (focus (omega)); (focus (exact ⟨hkn, fun i hi => by rcases Nat.lt_or_ge i k with h | h; exact hno i h; (obtain rfl : i = k := by omega); exact he⟩)))
        | (exfalso; omega)
        | skip
  · have hkl : k = queue.length := by omega
    subst hkl
    have hnq : ¬ hasQ queue ⟨kd, fid, foff, fin, fcode, frs, fdata⟩ := fun ⟨i, hi, e⟩ => hno i hi e
    rw [if_neg (by rw [no_of hnq]; exact Bool.false_ne_true)] at hR
    clear hno hkn hk hnq
    by_cases h16 : kd = 16
    · subst h16
      rw [if_neg (fun h => by omega), if_pos rfl] at hR
      have hT := hT ⟨16, fid, flow.Max, fin, fcode, frs, fdata⟩
      rw [hR] at hT
      (repeat' first | (refine s_callM [0, 1, 4] (hT) (h := ?_)) | (refine s_callM0 [0, 1, 4] (hT) (h := ?_)) | (refine p_callM [0, 1, 4] (hT) (h := ?_)) | (refine go_ ?_; ((repeat' first | exact True.intro | refine Two.mk ?_ ?_); all_goals intros)) | fail "")
      all_goals first
        | (exact endmA_)
        | (exfalso; omega)
        | skip
    · by_cases h18 : kd = 18
      · subst h18
        rw [if_neg (fun h => by omega), if_neg (by omega), if_pos rfl] at hR
        have hT := hT ⟨18, fid, grant, fin, fcode, frs, fdata⟩
        rw [hR] at hT
        (repeat' first | (refine s_callM [0, 1, 4] (hT) (h := ?_)) | (refine s_callM0 [0, 1, 4] (hT) (h := ?_)) | (refine p_callM [0, 1, 4] (hT) (h := ?_)) | (refine go_ ?_; ((repeat' first | exact True.intro | refine Two.mk ?_ ?_); all_goals intros)) | fail "")
        all_goals first
          | (exact endmA_)
          | (exfalso; omega)
          | skip
      · by_cases h17 : kd = 17
        · subst h17
          rw [if_neg h16, if_neg h18, if_pos rfl] at hR
          by_cases hx : lnIx lanes fid < lanes.length
          · rw [if_pos hx] at hLn
            have hin : lnIx lanes fid < (lanes.map encLane).length := by rw [List.length_map]; exact hx
            have hat := eAt_map encLane hx
            generalize lnIx lanes fid = n at *
            cases hov : (lanes.getD n default).Over
            · rw [if_neg (fun h => by rcases h.2 with h | h; omega; (rw [hov] at h; cases h))] at hR
              have hT := hT ⟨17, fid, (lanes.getD n default).In.Window, fin, fcode, frs, fdata⟩
              rw [hR] at hT
              (repeat' first | (refine s_callM [0, 1, 4] (hLn) (h := ?_)) | (refine s_callM0 [0, 1, 4] (hLn) (h := ?_)) | (refine p_callM [0, 1, 4] (hLn) (h := ?_)) | refine s_i (hq := q_nil_eql rfl rfl rfl rfl) (h := ?_) | (refine goI_ ?_; ((repeat' first | exact True.intro | refine Two.mk ?_ ?_); all_goals intros)) | refine s_i (h := ?_) | refine s_i (hq := q_index_ro rfl rfl rfl (by first | exact lit0 | exact lit1 | exact lit2 | exact lit3 | rfl) (by simp only [List.length_cons, List.length_nil]; omega) rfl rfl rfl rfl) (h := ?_) | refine p_i (h := ?_) | refine p_ih (h := ?_) | refine s_lit (h := ?_) | refine p_lit (h := ?_) | refine p_lit0 (h := ?_) | refine s_lit0 (h := ?_) | refine s_ixa (h := ?_) | refine s_insert (h := ?_) | (refine s_sadd rfl ?_ (h := ?_); (focus (first | omega | (simp only [List.length_append, List.length_map, List.length_cons, List.length_nil, List.length_take, List.length_drop]; omega)))) | (refine p_sadd rfl ?_ (h := ?_); (focus (first | omega | (simp only [List.length_append, List.length_map, List.length_cons, List.length_nil, List.length_take, List.length_drop]; omega)))) | fail "")
              all_goals (try rw [hov])
              all_goals (first | done | ((repeat' first | (refine s_callM [0, 1, 4] (hT) (h := ?_)) | (refine s_callM0 [0, 1, 4] (hT) (h := ?_)) | (refine p_callM [0, 1, 4] (hT) (h := ?_)) | (refine go_ ?_; ((repeat' first | exact True.intro | refine Two.mk ?_ ?_); all_goals intros)) | fail "")) | skip)
              all_goals first
                | (exact endmA_)
                | (exfalso; omega)
                | skip
            · rw [if_pos ⟨rfl, .inr hov⟩] at hR
              cases hR
              (repeat' first | (refine s_callM [0, 1, 4] (hLn) (h := ?_)) | (refine s_callM0 [0, 1, 4] (hLn) (h := ?_)) | (refine p_callM [0, 1, 4] (hLn) (h := ?_)) | refine s_i (hq := q_nil_eql rfl rfl rfl rfl) (h := ?_) | (refine goI_ ?_; ((repeat' first | exact True.intro | refine Two.mk ?_ ?_); all_goals intros)) | refine s_i (h := ?_) | refine s_i (hq := q_index_ro rfl rfl rfl (by first | exact lit0 | exact lit1 | exact lit2 | exact lit3 | rfl) (by simp only [List.length_cons, List.length_nil]; omega) rfl rfl rfl rfl) (h := ?_) | refine p_i (h := ?_) | refine p_ih (h := ?_) | refine s_lit (h := ?_) | refine p_lit (h := ?_) | refine p_lit0 (h := ?_) | refine s_lit0 (h := ?_) | refine s_ixa (h := ?_) | refine s_insert (h := ?_) | (refine s_sadd rfl ?_ (h := ?_); (focus (first | omega | (simp only [List.length_append, List.length_map, List.length_cons, List.length_nil, List.length_take, List.length_drop]; omega)))) | (refine p_sadd rfl ?_ (h := ?_); (focus (first | omega | (simp only [List.length_append, List.length_map, List.length_cons, List.length_nil, List.length_take, List.length_drop]; omega)))) | fail "")
              all_goals (try rw [hov])
              all_goals (first | done | ((repeat' first | (refine go_ ?_; ((repeat' first | exact True.intro | refine Two.mk ?_ ?_); all_goals intros)) | fail "")) | skip)
              all_goals first
                | (exact endmA_)
                | (exfalso; omega)
                | skip
          · rw [if_neg hx] at hLn
            rw [if_pos ⟨rfl, .inl (by omega)⟩] at hR
            cases hR
            (repeat' first | (refine s_callM [0, 1, 4] (hLn) (h := ?_)) | (refine s_callM0 [0, 1, 4] (hLn) (h := ?_)) | (refine p_callM [0, 1, 4] (hLn) (h := ?_)) | refine s_i (hq := q_nil2_eql rfl rfl rfl rfl) (h := ?_) | (refine goI_ ?_; ((repeat' first | exact True.intro | refine Two.mk ?_ ?_); all_goals intros)) | refine s_i (h := ?_) | refine s_i (hq := q_index_ro rfl rfl rfl (by first | exact lit0 | exact lit1 | exact lit2 | exact lit3 | rfl) (by simp only [List.length_cons, List.length_nil]; omega) rfl rfl rfl rfl) (h := ?_) | refine p_i (h := ?_) | refine p_ih (h := ?_) | refine s_lit (h := ?_) | refine p_lit (h := ?_) | refine p_lit0 (h := ?_) | refine s_lit0 (h := ?_) | refine s_ixa (h := ?_) | refine s_insert (h := ?_) | (refine s_sadd rfl ?_ (h := ?_); (focus (first | omega | (simp only [List.length_append, List.length_map, List.length_cons, List.length_nil, List.length_take, List.length_drop]; omega)))) | (refine p_sadd rfl ?_ (h := ?_); (focus (first | omega | (simp only [List.length_append, List.length_map, List.length_cons, List.length_nil, List.length_take, List.length_drop]; omega)))) | fail "")
            all_goals first
              | (exact endmA_)
              | (exfalso; omega)
              | skip
        · rw [if_neg (fun h => h17 h.1), if_neg h16, if_neg h18, if_neg h17] at hR
          have hT := hT ⟨kd, fid, foff, fin, fcode, frs, fdata⟩
          rw [hR] at hT
          (repeat' first | (refine s_callM [0, 1, 4] (hT) (h := ?_)) | (refine s_callM0 [0, 1, 4] (hT) (h := ?_)) | (refine p_callM [0, 1, 4] (hT) (h := ?_)) | (refine go_ ?_; ((repeat' first | exact True.intro | refine Two.mk ?_ ?_); all_goals intros)) | fail "")
          all_goals first
            | (exact endmA_)
            | (exfalso; omega)
            | skip
end Go.Proofs.YtfdomanbdfekhaaGreat
