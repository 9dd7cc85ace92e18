/-
  The reference's SenderHeard; sender.Lose, and the reference's SenderLost: what they answer; the laws' answers.
-/
import Derived.Test.YtfdomanbdfekhaaGreatGA
import Derived.Test.YtfdomanbdfekhaaGreatSndL
import Derived.Test.YtfdomanbdfekhaaGreatGG
set_option linter.unusedVariables false
set_option linter.unusedSimpArgs false
set_option linter.unusedVariables false
namespace Go.Proofs.YtfdomanbdfekhaaGreat
set_option maxRecDepth 100000
attribute [local irreducible] Run RunL QStep GStep Fn Less PL FnM

theorem part_ok {s : DSender} {off n : Int} {fin : Bool} (hp0 : partFlt s off n fin = 0) : sndOk s ∧ partOk s off n fin := by
  rcases partFlt_cases s off n fin with ⟨h0, e⟩ | ⟨_, h, h', _⟩ | ⟨h0, hok, hp, e⟩
  · omega
  · exact ⟨h, h'⟩
  · omega
set_option maxHeartbeats 8000000 in
theorem lose_fn (s : DSender) (off n : Int) (fin : Bool) (hw : wfSender s) (hu : s.Lost.length * 16 ≤ 4294967296 ∧ s.Acked.length * 16 ≤ 4294967296) (ho : I64 off) (hn : I64 n) : Fn Tryz.prog 36 [.agg (encSender s), .lit (.int .i64 off), .lit (.int .i64 n), .lit (.bool fin)] (encSE (lostR s off n fin)) := by
  have h1 := part_fn s off n fin hw ho hn
  have h2 := senderFresh_fn s hw
  have h3 := fun r => holes_fn' s.Acked r hw.2.2.2.2.2.2 (by omega)
  obtain ⟨w1, w2⟩ := hu
  clear hw
  unfold I64 at ho hn
  unfold lostR encSE
  by_cases hp0 : partFlt s off n fin = 0
  · obtain ⟨hok, hp⟩ := part_ok hp0
    rw [hp0, if_pos rfl] at h1
    rw [hp0, if_neg (by decide)]
    obtain ⟨q1, q2, q3, q4⟩ := snd_facts hok hp
    clear hp0 hok hp
    unfold lostS
    by_cases hn0 : 0 < n
    · rw [if_pos hn0]
      have q4 := q4 hn0
      have h3 := h3 ⟨off, off + n - 1⟩
      rw [rHoles_ok q2 q4] at h3
      obtain ⟨g1, g2⟩ := hol_set q2 q4 s.Acked.length (Nat.le_refl _)
      have g3 := fun x hx => (rSet_good g1 x hx).1
      generalize hol s.Acked ⟨off, off + n - 1⟩ s.Acked.length = H at *
      obtain ⟨data, f0, next, mx, lost, acked, en, ov⟩ := s
      dsimp only [encSender, encRange] at *
      clear q2 q4 g1
      refine fn_of_run (by kernel_rfl) Tryz.func36 rfl (by kernel_rfl) ?_
      (repeat' first | (refine s_call (h1) (h := ?_)) | (refine p_call (h1) (h := ?_)) | (refine s_call (h2) (h := ?_)) | (refine p_call (h2) (h := ?_)) | (refine s_call (h3) (h := ?_)) | (refine p_call (h3) (h := ?_)) | (refine go_ ?_; ((repeat' first | exact True.intro | refine Two.mk ?_ ?_); all_goals intros)) | fail "")
      refine r_for (fun k : Nat => ⟨[(3, .lit (.bool fin)), (4, .ptr 0 0 0 0), (8, .ptr 1 0 0 0), (39, .ro (H.map encRange)), (40, .lit (.int .i64 H.length)), (41, .lit (.int .i64 k))], [(0, some (.box 59 [.ro (data.map encB), .lit (.bool f0), .lit (.int .i64 next), .lit (.int .i64 mx), .ro (((H.take k).foldl rAdd lost).map encRange), .ro (acked.map encRange), .lit (.bool en), .lit (.bool ov)])), (1, some (.box 59 [.lit (.slice none 0 0), .lit (.bool false), .lit (.int .i64 0), .lit (.int .i64 0), .lit (.slice none 0 0), .lit (.slice none 0 0), .lit (.bool false), .lit (.bool false)]))], 2, Tryz.f36.ntmps⟩)
        (fun k => k ≤ H.length) (fun k => H.length - k) 0 (Nat.zero_le _) less_to ?_
      intro k hk
      by_cases hkn : k < H.length
      · have hx := g3 _ (getD_mem hkn)
        obtain ⟨e1, _, e3⟩ := foldAdd (H.take k) q1 (fun x hx => g3 x (List.mem_of_mem_take hx))
        have hA := add_fn ((H.take k).foldl rAdd lost) (H.getD k default) (wf_set e1) (by rw [List.length_take] at e3; omega)
        rw [rAddR_ok e1 hx, ← fold_snoc hkn] at hA
        dsimp only [encRange] at hA
        clear h1 h2 h3 e1 e3
        (repeat' first | (refine s_call (hA) (h := ?_)) | (refine p_call (hA) (h := ?_)) | (refine go_ ?_; ((repeat' first | exact True.intro | refine Two.mk ?_ ?_); all_goals intros)) | fail "")
        all_goals first
          | (refine ⟨k + 1, ?_, ?_, ?_⟩; rotate_left 2; (exact lessA_); (focus (omega)); (focus (exact hkn)))
          | skip
      · have hkl : k = H.length := by omega
        subst hkl
        rw [List.take_length]
        clear h1 h2 h3
        cases fin <;> cases en
        all_goals (repeat' first | (refine go_ ?_; ((repeat' first | exact True.intro | refine Two.mk ?_ ?_); all_goals intros)) | fail "")
        all_goals first
          | (exact endwA_)
          | skip
    · rw [if_neg hn0]
      clear h3 q4
      obtain ⟨data, f0, next, mx, lost, acked, en, ov⟩ := s
      dsimp only [encSender, encRange] at *
      clear q1 q2
      cases fin <;> cases en
      all_goals refine fn_of_run (by kernel_rfl) Tryz.func36 rfl (by kernel_rfl) ?_
      all_goals (repeat' first | (refine s_call (h1) (h := ?_)) | (refine p_call (h1) (h := ?_)) | (refine s_call (h2) (h := ?_)) | (refine p_call (h2) (h := ?_)) | (refine go_ ?_; ((repeat' first | exact True.intro | refine Two.mk ?_ ?_); all_goals intros)) | fail "")
      all_goals first
        | (exact endwA_)
        | skip
  · rw [if_neg hp0] at h1
    rw [if_pos hp0]
    clear h2 h3
    generalize partFlt s off n fin = e at *
    refine fn_of_run (by kernel_rfl) Tryz.func36 rfl (by kernel_rfl) ?_
    (repeat' first | (refine s_call (h1) (h := ?_)) | (refine p_call (h1) (h := ?_)) | (refine go_ ?_; ((repeat' first | exact True.intro | refine Two.mk ?_ ?_); all_goals intros)) | fail "")
    all_goals first
      | (exact endwA_)
      | skip
set_option maxHeartbeats 8000000 in
theorem loseRef_fn (s : DSender) (off n : Int) (fin : Bool) (hw : U.wfSender s) (ho : I64 off) (hn : I64 n) : Fn Tryz.prog 70 [.agg (encSender s), .lit (.int .i64 off), .lit (.int .i64 n), .lit (.bool fin)] (encSE (lostR s off n fin)) := by
  have h1 := partFault_fn s off n fin hw ho hn
  have w1 := hw.2.2.2.1
  have w2 := hw.2.2.2.2.2.1
  clear hw
  unfold I64 at ho hn
  unfold lostR encSE
  by_cases hp0 : partFlt s off n fin = 0
  · obtain ⟨hok, hp⟩ := part_ok hp0
    rw [hp0] at h1
    rw [hp0, if_neg (by decide)]
    obtain ⟨q1, q2, q3, q4⟩ := snd_facts hok hp
    clear hp0 hok hp
    unfold lostS
    by_cases hn0 : 0 < n
    · rw [if_pos hn0]
      have q4 := q4 hn0
      obtain ⟨data, f0, next, mx, lost, acked, en, ov⟩ := s
      dsimp only [encSender] at *
      refine fn_of_run (by kernel_rfl) Tryz.func70 rfl (by kernel_rfl) ?_
      (repeat' first | (refine s_call (h1) (h := ?_)) | (refine p_call (h1) (h := ?_)) | (refine go_ ?_; ((repeat' first | exact True.intro | refine Two.mk ?_ ?_); all_goals intros)) | fail "")
      refine r_for (fun k : Nat => ⟨[(3, .lit (.bool fin)), (4, .ptr 0 0 0 0), (8, .ptr 1 0 0 0), (11, .ro ((hol acked ⟨off, off + n - 1⟩ k).map encRange)), (33, .ro (acked.map encRange)), (34, .lit (.int .i64 acked.length)), (35, .lit (.int .i64 k))], [(0, some (.box 59 [.ro (data.map encB), .lit (.bool f0), .lit (.int .i64 next), .lit (.int .i64 mx), .ro (lost.map encRange), .ro (acked.map encRange), .lit (.bool en), .lit (.bool ov)])), (1, some (.box 59 [.lit (.slice none 0 0), .lit (.bool false), .lit (.int .i64 0), .lit (.int .i64 0), .lit (.slice none 0 0), .lit (.slice none 0 0), .lit (.bool false), .lit (.bool false)]))], 2, Tryz.f70.ntmps⟩)
        (fun k => k ≤ acked.length) (fun k => acked.length - k) 0 (Nat.zero_le _) less_to ?_
      intro k hk
      by_cases hkn : k < acked.length
      · obtain ⟨hx, _⟩ := rSet_good q2 _ (getD_mem hkn)
        obtain ⟨e1, e2⟩ := hol_set q2 q4 k hk
        have hA := without_fn (hol acked ⟨off, off + n - 1⟩ k) (acked.getD k default) e1 hx (by omega)
        rw [← hol_snoc hkn] at hA
        dsimp only [encRange] at hA
        clear h1 e1 e2
        (repeat' first | (refine s_call (hA) (h := ?_)) | (refine p_call (hA) (h := ?_)) | (refine go_ ?_; ((repeat' first | exact True.intro | refine Two.mk ?_ ?_); all_goals intros)) | fail "")
        all_goals first
          | (refine ⟨k + 1, ?_, ?_, ?_⟩; rotate_left 2; (exact lessA_); (focus (omega)); (focus (exact hkn)))
          | skip
      · have hkl : k = acked.length := by omega
        subst hkl
        obtain ⟨g1, g2⟩ := hol_set q2 q4 acked.length (Nat.le_refl _)
        have g3 := fun x hx => (rSet_good g1 x hx).1
        obtain ⟨e1, e2, e3⟩ := foldAdd (hol acked ⟨off, off + n - 1⟩ acked.length) q1 g3
        have hJ := joined_fn (lost ++ hol acked ⟨off, off + n - 1⟩ acked.length) _ (fun x hx => by
          rcases List.mem_append.1 hx with h | h
          · exact (rSet_good q1 x h).1
          · exact g3 x h) (by rw [List.length_append]; omega) e1 e2
        generalize hol acked ⟨off, off + n - 1⟩ acked.length = H at *
        generalize H.foldl rAdd lost = R at *
        clear h1 e1 e2 e3 q2 q4 q1 g1 g3
        cases fin
        · rw [Bool.not_false, Bool.and_true]
          (repeat' first | (refine s_call (hJ) (h := ?_)) | (refine p_call (hJ) (h := ?_)) | (refine s_app (r := lost.map encRange) ?_ ?_ ?_ ?_ (h := ?_); (focus (first | with_reducible rfl | with_reducible exact List.nil_append _ | with_reducible exact (List.map_append ..).symm | (rw [take_snoc (by assumption), List.map_append]; rfl) | (rw [List.map_append]; rfl) | (simp; done))); (focus (first | exact len_none | exact len_one rfl | exact len_two rfl rfl | exact len_enc (fun _ => rfl))); (focus ((conv => lhs; rhs; whnf); simp only [List.length_map, List.length_append, List.length_cons, List.length_nil, List.length_take]; omega)); (focus (simp only [List.length_map, List.length_append, List.length_cons, List.length_nil, List.length_take]; omega))) | (refine s_app0R (r := lost.map encRange) ?_ ?_ ?_ ?_ (h := ?_); (focus (first | with_reducible rfl | with_reducible exact List.nil_append _ | with_reducible exact (List.map_append ..).symm | (rw [take_snoc (by assumption), List.map_append]; rfl) | (rw [List.map_append]; rfl) | (simp; done))); (focus (first | exact len_none | exact len_one rfl | exact len_two rfl rfl | exact len_enc (fun _ => rfl))); (focus ((conv => lhs; rhs; whnf); simp only [List.length_map, List.length_append, List.length_cons, List.length_nil, List.length_take]; omega)); (focus (simp only [List.length_map, List.length_append, List.length_cons, List.length_nil, List.length_take]; omega))) | (refine p_app (r := lost.map encRange) ?_ ?_ ?_ ?_ (h := ?_); (focus (first | with_reducible rfl | with_reducible exact List.nil_append _ | with_reducible exact (List.map_append ..).symm | (rw [take_snoc (by assumption), List.map_append]; rfl) | (rw [List.map_append]; rfl) | (simp; done))); (focus (first | exact len_none | exact len_one rfl | exact len_two rfl rfl | exact len_enc (fun _ => rfl))); (focus ((conv => lhs; rhs; whnf); simp only [List.length_map, List.length_append, List.length_cons, List.length_nil, List.length_take]; omega)); (focus (simp only [List.length_map, List.length_append, List.length_cons, List.length_nil, List.length_take]; omega))) | (refine p_app0R (r := lost.map encRange) ?_ ?_ ?_ ?_ (h := ?_); (focus (first | with_reducible rfl | with_reducible exact List.nil_append _ | with_reducible exact (List.map_append ..).symm | (rw [take_snoc (by assumption), List.map_append]; rfl) | (rw [List.map_append]; rfl) | (simp; done))); (focus (first | exact len_none | exact len_one rfl | exact len_two rfl rfl | exact len_enc (fun _ => rfl))); (focus ((conv => lhs; rhs; whnf); simp only [List.length_map, List.length_append, List.length_cons, List.length_nil, List.length_take]; omega)); (focus (simp only [List.length_map, List.length_append, List.length_cons, List.length_nil, List.length_take]; omega))) | (refine s_appro (r := (lost ++ H).map encRange) ?_ ?_ ?_ ?_ (h := ?_); (focus (first | with_reducible rfl | with_reducible exact List.nil_append _ | with_reducible exact (List.map_append ..).symm | (rw [take_snoc (by assumption), List.map_append]; rfl) | (rw [List.map_append]; rfl) | (simp; done))); (focus (first | exact len_none | exact len_one rfl | exact len_two rfl rfl | exact len_enc (fun _ => rfl))); (focus ((conv => lhs; rhs; whnf); simp only [List.length_map, List.length_append, List.length_cons, List.length_nil, List.length_take]; omega)); (focus (simp only [List.length_map, List.length_append, List.length_cons, List.length_nil, List.length_take]; omega))) | (refine s_app0roR (r := (lost ++ H).map encRange) ?_ ?_ ?_ ?_ (h := ?_); (focus (first | with_reducible rfl | with_reducible exact List.nil_append _ | with_reducible exact (List.map_append ..).symm | (rw [take_snoc (by assumption), List.map_append]; rfl) | (rw [List.map_append]; rfl) | (simp; done))); (focus (first | exact len_none | exact len_one rfl | exact len_two rfl rfl | exact len_enc (fun _ => rfl))); (focus ((conv => lhs; rhs; whnf); simp only [List.length_map, List.length_append, List.length_cons, List.length_nil, List.length_take]; omega)); (focus (simp only [List.length_map, List.length_append, List.length_cons, List.length_nil, List.length_take]; omega))) | (refine p_appro (r := (lost ++ H).map encRange) ?_ ?_ ?_ ?_ (h := ?_); (focus (first | with_reducible rfl | with_reducible exact List.nil_append _ | with_reducible exact (List.map_append ..).symm | (rw [take_snoc (by assumption), List.map_append]; rfl) | (rw [List.map_append]; rfl) | (simp; done))); (focus (first | exact len_none | exact len_one rfl | exact len_two rfl rfl | exact len_enc (fun _ => rfl))); (focus ((conv => lhs; rhs; whnf); simp only [List.length_map, List.length_append, List.length_cons, List.length_nil, List.length_take]; omega)); (focus (simp only [List.length_map, List.length_append, List.length_cons, List.length_nil, List.length_take]; omega))) | (refine p_app0roR (r := (lost ++ H).map encRange) ?_ ?_ ?_ ?_ (h := ?_); (focus (first | with_reducible rfl | with_reducible exact List.nil_append _ | with_reducible exact (List.map_append ..).symm | (rw [take_snoc (by assumption), List.map_append]; rfl) | (rw [List.map_append]; rfl) | (simp; done))); (focus (first | exact len_none | exact len_one rfl | exact len_two rfl rfl | exact len_enc (fun _ => rfl))); (focus ((conv => lhs; rhs; whnf); simp only [List.length_map, List.length_append, List.length_cons, List.length_nil, List.length_take]; omega)); (focus (simp only [List.length_map, List.length_append, List.length_cons, List.length_nil, List.length_take]; omega))) | (refine go_ ?_; ((repeat' first | exact True.intro | refine Two.mk ?_ ?_); all_goals intros)) | fail "")
          all_goals first
            | (exact endwA_)
            | skip
        · rw [Bool.not_true, Bool.and_false]
          (repeat' first | (refine s_call (hJ) (h := ?_)) | (refine p_call (hJ) (h := ?_)) | (refine s_app (r := lost.map encRange) ?_ ?_ ?_ ?_ (h := ?_); (focus (first | with_reducible rfl | with_reducible exact List.nil_append _ | with_reducible exact (List.map_append ..).symm | (rw [take_snoc (by assumption), List.map_append]; rfl) | (rw [List.map_append]; rfl) | (simp; done))); (focus (first | exact len_none | exact len_one rfl | exact len_two rfl rfl | exact len_enc (fun _ => rfl))); (focus ((conv => lhs; rhs; whnf); simp only [List.length_map, List.length_append, List.length_cons, List.length_nil, List.length_take]; omega)); (focus (simp only [List.length_map, List.length_append, List.length_cons, List.length_nil, List.length_take]; omega))) | (refine s_app0R (r := lost.map encRange) ?_ ?_ ?_ ?_ (h := ?_); (focus (first | with_reducible rfl | with_reducible exact List.nil_append _ | with_reducible exact (List.map_append ..).symm | (rw [take_snoc (by assumption), List.map_append]; rfl) | (rw [List.map_append]; rfl) | (simp; done))); (focus (first | exact len_none | exact len_one rfl | exact len_two rfl rfl | exact len_enc (fun _ => rfl))); (focus ((conv => lhs; rhs; whnf); simp only [List.length_map, List.length_append, List.length_cons, List.length_nil, List.length_take]; omega)); (focus (simp only [List.length_map, List.length_append, List.length_cons, List.length_nil, List.length_take]; omega))) | (refine p_app (r := lost.map encRange) ?_ ?_ ?_ ?_ (h := ?_); (focus (first | with_reducible rfl | with_reducible exact List.nil_append _ | with_reducible exact (List.map_append ..).symm | (rw [take_snoc (by assumption), List.map_append]; rfl) | (rw [List.map_append]; rfl) | (simp; done))); (focus (first | exact len_none | exact len_one rfl | exact len_two rfl rfl | exact len_enc (fun _ => rfl))); (focus ((conv => lhs; rhs; whnf); simp only [List.length_map, List.length_append, List.length_cons, List.length_nil, List.length_take]; omega)); (focus (simp only [List.length_map, List.length_append, List.length_cons, List.length_nil, List.length_take]; omega))) | (refine p_app0R (r := lost.map encRange) ?_ ?_ ?_ ?_ (h := ?_); (focus (first | with_reducible rfl | with_reducible exact List.nil_append _ | with_reducible exact (List.map_append ..).symm | (rw [take_snoc (by assumption), List.map_append]; rfl) | (rw [List.map_append]; rfl) | (simp; done))); (focus (first | exact len_none | exact len_one rfl | exact len_two rfl rfl | exact len_enc (fun _ => rfl))); (focus ((conv => lhs; rhs; whnf); simp only [List.length_map, List.length_append, List.length_cons, List.length_nil, List.length_take]; omega)); (focus (simp only [List.length_map, List.length_append, List.length_cons, List.length_nil, List.length_take]; omega))) | (refine s_appro (r := (lost ++ H).map encRange) ?_ ?_ ?_ ?_ (h := ?_); (focus (first | with_reducible rfl | with_reducible exact List.nil_append _ | with_reducible exact (List.map_append ..).symm | (rw [take_snoc (by assumption), List.map_append]; rfl) | (rw [List.map_append]; rfl) | (simp; done))); (focus (first | exact len_none | exact len_one rfl | exact len_two rfl rfl | exact len_enc (fun _ => rfl))); (focus ((conv => lhs; rhs; whnf); simp only [List.length_map, List.length_append, List.length_cons, List.length_nil, List.length_take]; omega)); (focus (simp only [List.length_map, List.length_append, List.length_cons, List.length_nil, List.length_take]; omega))) | (refine s_app0roR (r := (lost ++ H).map encRange) ?_ ?_ ?_ ?_ (h := ?_); (focus (first | with_reducible rfl | with_reducible exact List.nil_append _ | with_reducible exact (List.map_append ..).symm | (rw [take_snoc (by assumption), List.map_append]; rfl) | (rw [List.map_append]; rfl) | (simp; done))); (focus (first | exact len_none | exact len_one rfl | exact len_two rfl rfl | exact len_enc (fun _ => rfl))); (focus ((conv => lhs; rhs; whnf); simp only [List.length_map, List.length_append, List.length_cons, List.length_nil, List.length_take]; omega)); (focus (simp only [List.length_map, List.length_append, List.length_cons, List.length_nil, List.length_take]; omega))) | (refine p_appro (r := (lost ++ H).map encRange) ?_ ?_ ?_ ?_ (h := ?_); (focus (first | with_reducible rfl | with_reducible exact List.nil_append _ | with_reducible exact (List.map_append ..).symm | (rw [take_snoc (by assumption), List.map_append]; rfl) | (rw [List.map_append]; rfl) | (simp; done))); (focus (first | exact len_none | exact len_one rfl | exact len_two rfl rfl | exact len_enc (fun _ => rfl))); (focus ((conv => lhs; rhs; whnf); simp only [List.length_map, List.length_append, List.length_cons, List.length_nil, List.length_take]; omega)); (focus (simp only [List.length_map, List.length_append, List.length_cons, List.length_nil, List.length_take]; omega))) | (refine p_app0roR (r := (lost ++ H).map encRange) ?_ ?_ ?_ ?_ (h := ?_); (focus (first | with_reducible rfl | with_reducible exact List.nil_append _ | with_reducible exact (List.map_append ..).symm | (rw [take_snoc (by assumption), List.map_append]; rfl) | (rw [List.map_append]; rfl) | (simp; done))); (focus (first | exact len_none | exact len_one rfl | exact len_two rfl rfl | exact len_enc (fun _ => rfl))); (focus ((conv => lhs; rhs; whnf); simp only [List.length_map, List.length_append, List.length_cons, List.length_nil, List.length_take]; omega)); (focus (simp only [List.length_map, List.length_append, List.length_cons, List.length_nil, List.length_take]; omega))) | (refine go_ ?_; ((repeat' first | exact True.intro | refine Two.mk ?_ ?_); all_goals intros)) | fail "")
          all_goals first
            | (exact endwA_)
            | skip
    · rw [if_neg hn0]
      clear q4
      obtain ⟨data, f0, next, mx, lost, acked, en, ov⟩ := s
      dsimp only [encSender, encRange] at *
      clear q1 q2
      cases fin
      · rw [Bool.not_false, Bool.and_true]
        refine fn_of_run (by kernel_rfl) Tryz.func70 rfl (by kernel_rfl) ?_
        (repeat' first | (refine s_call (h1) (h := ?_)) | (refine p_call (h1) (h := ?_)) | (refine go_ ?_; ((repeat' first | exact True.intro | refine Two.mk ?_ ?_); all_goals intros)) | fail "")
        all_goals first
          | (exact endwA_)
          | skip
      · rw [Bool.not_true, Bool.and_false]
        refine fn_of_run (by kernel_rfl) Tryz.func70 rfl (by kernel_rfl) ?_
        (repeat' first | (refine s_call (h1) (h := ?_)) | (refine p_call (h1) (h := ?_)) | (refine go_ ?_; ((repeat' first | exact True.intro | refine Two.mk ?_ ?_); all_goals intros)) | fail "")
        all_goals first
          | (exact endwA_)
          | skip
  · rw [if_pos hp0]
    generalize partFlt s off n fin = e at *
    refine fn_of_run (by kernel_rfl) Tryz.func70 rfl (by kernel_rfl) ?_
    (repeat' first | (refine s_call (h1) (h := ?_)) | (refine p_call (h1) (h := ?_)) | (refine go_ ?_; ((repeat' first | exact True.intro | refine Two.mk ?_ ?_); all_goals intros)) | fail "")
    all_goals first
      | (exact endwA_)
      | skip
end Go.Proofs.YtfdomanbdfekhaaGreat
