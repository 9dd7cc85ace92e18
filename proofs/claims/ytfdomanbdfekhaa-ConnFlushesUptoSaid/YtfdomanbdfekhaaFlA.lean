/-
  conn.Flush: end.pack.
-/
import Derived.Test.YtfdomanbdfekhaaGA
import Derived.Test.YtfdomanbdfekhaaFlP
set_option linter.unusedVariables false
set_option linter.unusedSimpArgs false
set_option linter.unusedVariables false
namespace Go.Proofs.Ytfdomanbdfekhaa
set_option maxRecDepth 100000
attribute [local irreducible] Run RunL QStep GStep Fn Less PL FnM

theorem getD_set_ne {l : List DLane} {k j : Nat} {x : DLane} (h : k ≠ j) : (l.set k x).getD j default = l.getD j default := by
  rw [List.getD_eq_getElem?_getD, List.getD_eq_getElem?_getD, List.getElem?_set_ne h]
set_option maxHeartbeats 8000000 in
theorem endPack_fnm (c : DConn) (q out : List DFrame) (hu : ∀ y, y ∈ c.Lanes → U.wfLane y ∧ 0 ≤ y.Id ∧ y.Id ≤ 4611686018427387903) (hl : c.Lanes.length ≤ 1000000) (hc : flwOk c.Credit) (ho : okFs out) (ho2 : out.length ≤ 12)
    (R : List DLane × Int × List DFrame) (hR : packN c.Credit.Max c.Lanes c.Lanes.length 0 (c.Lanes, c.Credit.Used, out) = R) :
    FnM Try.prog 79 [.ptr 0 0 0 0, .own 2] [(0, some (.box 97 (connC c (.own 1) (.ro (q.map encFrame))))), (1, some (.row 101 16 (c.Lanes.map encLane))), (2, some (.row 115 7 (out.map encFrame)))] 3
      (.own 3) [(0, some (.box 97 (connC (cnPk c R.1 R.2.1) (.own 1) (.ro (q.map encFrame))))), (1, some (.row 101 16 (R.1.map encLane))), (3, some (.row 115 7 (R.2.2.map encFrame)))] 4 := by
  unfold flwOk at hc
  obtain ⟨b0, space, pace, flow, credit, ids, grant, opened, lanes, b1, queue, last, resets, b2, code⟩ := c
  obtain ⟨cmax, cused⟩ := credit
  unfold connC cnPk
  dsimp only at *
  refine fnm_of_run (by kernel_rfl) Try.func79 rfl (by kernel_rfl) (by rfl) ?_
  (repeat' first | (refine go_ ?_; ((repeat' first | exact True.intro | refine Two.mk ?_ ?_); all_goals intros)) | fail "")
  refine r_for (fun x : Nat × List DLane × Int × List DFrame => ⟨[(0, .ptr 0 0 0 0), (1, .own 3), (18, .lit (.int .i64 lanes.length)), (19, .lit (.int .i64 x.1))], [(0, some (.box 97 [.lit (.bool b0), .lit (.int .i64 space.Next), .ro (space.Sent.map encParcel), .lit (.int .i64 space.Top), .ro (space.Heard.map encRange), .ro (space.Skip.map encI), .lit (.int .i64 pace.Window), .lit (.int .i64 pace.Thresh), .lit (.int .i64 pace.Flying), .lit (.int .i64 pace.Since), .lit (.int .i64 flow.Max), .lit (.int .i64 flow.Used), .lit (.int .i64 cmax), .lit (.int .i64 x.2.2.1), .lit (.int .i64 ids), .lit (.int .i64 grant), .lit (.int .i64 opened), .own 1, .lit (.bool b1), .ro (q.map encFrame), .lit (.int .i64 last), .lit (.int .i64 resets), .lit (.bool b2), .lit (.int .i64 code)])), (1, some (.row 101 16 (x.2.1.map encLane))), (3, some (.row 115 7 (x.2.2.2.map encFrame)))], 4, Try.f79.ntmps⟩)
    (fun x => x.1 ≤ lanes.length ∧ packN cmax lanes (lanes.length - x.1) x.1 x.2 = R ∧ x.2.1.length = lanes.length ∧ (∀ j, x.1 ≤ j → x.2.1.getD j default = lanes.getD j default) ∧ (0 ≤ x.2.2.1 ∧ x.2.2.1 ≤ cmax) ∧ okFs x.2.2.2 ∧ x.2.2.2.length ≤ 12) (fun x => lanes.length - x.1) (0, lanes, cused, out) ⟨Nat.zero_le _, hR, rfl, fun _ _ => rfl, by dsimp only; omega, ho, ho2⟩ (by first | exact mv_ 2 | skip) ?_
  clear hR ho ho2
  rintro ⟨k, ls, used, o⟩ ⟨hk, hm, hll, hsame, hus, hok, ho12⟩
  dsimp only at *
  by_cases hkn : k < lanes.length
  · obtain ⟨n, hn⟩ : ∃ n, lanes.length - k = n + 1 := ⟨lanes.length - k - 1, by omega⟩
    rw [hn] at hm
    unfold packN at hm
    dsimp only at hm
    have hs := size_fn o (fun f hf => (hok f hf).1) (fun f hf => (hok f hf).2) (by omega)
    have hz := szF_le (fun f hf => (hok f hf).2)
    by_cases hst : o.length = 12 ∨ rmF o ≤ 0
    · rw [if_pos hst] at hm
      subst hm
      unfold rmF at hst
      generalize szF o = z at *
      (repeat' first | (refine s_snap (hs) (h := ?_)) | (refine p_snapO (hs) (h := ?_)) | (refine go_ ?_; ((repeat' first | exact True.intro | refine Two.mk ?_ ?_); all_goals intros)) | fail "")
      all_goals first
        | (exact endmA_)
        | (exfalso; omega)
        | skip
    · rw [if_neg hst] at hm
      obtain ⟨hul, hid1, hid2⟩ := hu _ (getD_mem hkn)
      have hk2 := hsame k (Nat.le_refl k)
      rw [← hk2] at hm hul hid1 hid2
      have hp := senderPiece_fn (ls.getD k default).Out (rmF o) (cmax - used) (U.wf_leSender _ hul.2.2.2) (by unfold rmF I64; omega) (by unfold I64; omega)
      have hpk := fun h1 h2 => pc_ok (s := (ls.getD k default).Out) (room := rmF o) (credit := cmax - used) (id := (ls.getD k default).Id) hul.2.2.2 ⟨hid1, hid2⟩ h1 h2
      have hin : k < (ls.map encLane).length := by rw [List.length_map]; omega
      have hat : eAt (ls.map encLane) k = encLane (ls.getD k default) := by rw [eAt_map encLane (by omega)]
      have hnx := hul.2.2.2.2.1
      unfold I64 at hnx
      have hrm : rmF o = min 120 (376 - szF o) := rfl
      generalize rmF o = rm at *
      have hm2 : min 120 (400 - szF o - 24) = rm := by omega
      generalize szF o = z at *
      generalize pcR (ls.getD k default).Out rm (cmax - used) = P at *
      obtain ⟨S, F, ok, e⟩ := P
      unfold encPc at hp
      dsimp only at *
      by_cases hgo : e = 0 ∧ ok = true
      · rw [if_pos hgo] at hm
        obtain ⟨he, hb⟩ := hgo
        subst he hb
        obtain ⟨⟨d1, d2⟩, hwS, hwF, hfF⟩ := hpk rfl rfl
        have hf := fSpend_fn ⟨cmax, used⟩ (S.Next - (ls.getD k default).Out.Next) (by unfold flwOk; dsimp only; omega) d1 (by dsimp only; omega)
        have hst2 : (ls.map encLane).set k (setAt 8 (encSender S) (eAt (ls.map encLane) k)) = (ls.set k { ls.getD k default with Out := S }).map encLane := by
          rw [hat, List.map_set]; rfl
        have hwn := hwS.2.1
        unfold I64 at hwn
        (repeat' first | (refine s_snap (hs) (h := ?_)) | (refine p_snapO (hs) (h := ?_)) | (refine s_call (hp) (h := ?_)) | (refine p_call (hp) (h := ?_)) | (refine s_call (hf) (h := ?_)) | (refine p_call (hf) (h := ?_)) | refine s_i (hq := q_load_one rfl rfl rfl (reads_row rfl hin rfl hat) rfl) (h := ?_) | refine s_i (hq := q_load_agg rfl rfl rfl rfl (reads_row rfl hin rfl hat) (Nat.le_of_ble_eq_true rfl)) (h := ?_) | refine p_ih (hq := fun N => q_load_one rfl rfl rfl (reads_row rfl hin rfl hat) rfl) (h := ?_) | refine p_ih (hq := fun N => q_load_agg rfl rfl rfl rfl (reads_row rfl hin rfl hat) (Nat.le_of_ble_eq_true rfl)) (h := ?_) | (refine s_set (r := (ls.set k { ls.getD k default with Out := S }).map encLane) ?_ ?_ (h := ?_); (focus (first | omega | (simp only [List.length_map, List.length_append, List.length_take, List.length_drop, List.length_replicate]; omega))); (focus ((exact hst2)))) | (refine p_set (r := (ls.set k { ls.getD k default with Out := S }).map encLane) ?_ ?_ (h := ?_); (focus (first | omega | (simp only [List.length_map, List.length_append, List.length_take, List.length_drop, List.length_replicate]; omega))); (focus ((exact hst2)))) | (refine s_app (r := (o ++ [wId F (ls.getD k default).Id]).map encFrame) ?_ ?_ ?_ ?_ (h := ?_); (focus (first | ((rw [List.map_append]; rfl)) | with_reducible rfl | with_reducible exact List.nil_append _ | with_reducible exact (List.map_append ..).symm | (rw [take_snoc (by assumption), List.map_append]; rfl) | (rw [List.map_append]; rfl) | (simp; done))); (focus (first | exact len_none | exact len_one rfl | exact len_two rfl rfl | exact len_enc (fun _ => rfl))); (focus ((conv => lhs; rhs; whnf); simp only [List.length_map, List.length_append, List.length_cons, List.length_nil, List.length_take]; omega)); (focus (simp only [List.length_map, List.length_append, List.length_cons, List.length_nil, List.length_take]; omega))) | (refine s_app0R (r := (o ++ [wId F (ls.getD k default).Id]).map encFrame) ?_ ?_ ?_ ?_ (h := ?_); (focus (first | ((rw [List.map_append]; rfl)) | with_reducible rfl | with_reducible exact List.nil_append _ | with_reducible exact (List.map_append ..).symm | (rw [take_snoc (by assumption), List.map_append]; rfl) | (rw [List.map_append]; rfl) | (simp; done))); (focus (first | exact len_none | exact len_one rfl | exact len_two rfl rfl | exact len_enc (fun _ => rfl))); (focus ((conv => lhs; rhs; whnf); simp only [List.length_map, List.length_append, List.length_cons, List.length_nil, List.length_take]; omega)); (focus (simp only [List.length_map, List.length_append, List.length_cons, List.length_nil, List.length_take]; omega))) | (refine p_app (r := (o ++ [wId F (ls.getD k default).Id]).map encFrame) ?_ ?_ ?_ ?_ (h := ?_); (focus (first | ((rw [List.map_append]; rfl)) | with_reducible rfl | with_reducible exact List.nil_append _ | with_reducible exact (List.map_append ..).symm | (rw [take_snoc (by assumption), List.map_append]; rfl) | (rw [List.map_append]; rfl) | (simp; done))); (focus (first | exact len_none | exact len_one rfl | exact len_two rfl rfl | exact len_enc (fun _ => rfl))); (focus ((conv => lhs; rhs; whnf); simp only [List.length_map, List.length_append, List.length_cons, List.length_nil, List.length_take]; omega)); (focus (simp only [List.length_map, List.length_append, List.length_cons, List.length_nil, List.length_take]; omega))) | (refine p_app0R (r := (o ++ [wId F (ls.getD k default).Id]).map encFrame) ?_ ?_ ?_ ?_ (h := ?_); (focus (first | ((rw [List.map_append]; rfl)) | with_reducible rfl | with_reducible exact List.nil_append _ | with_reducible exact (List.map_append ..).symm | (rw [take_snoc (by assumption), List.map_append]; rfl) | (rw [List.map_append]; rfl) | (simp; done))); (focus (first | exact len_none | exact len_one rfl | exact len_two rfl rfl | exact len_enc (fun _ => rfl))); (focus ((conv => lhs; rhs; whnf); simp only [List.length_map, List.length_append, List.length_cons, List.length_nil, List.length_take]; omega)); (focus (simp only [List.length_map, List.length_append, List.length_cons, List.length_nil, List.length_take]; omega))) | (refine goU_ 8 ?_; ((repeat' first | exact True.intro | refine Two.mk ?_ ?_); all_goals intros)) | fail "")
        rw [hm2]
        refine r_seq ?_
        refine r_drawW [] ?_
        (repeat' first | (refine s_snap (hs) (h := ?_)) | (refine p_snapO (hs) (h := ?_)) | (refine s_call (hp) (h := ?_)) | (refine p_call (hp) (h := ?_)) | (refine s_call (hf) (h := ?_)) | (refine p_call (hf) (h := ?_)) | refine s_i (hq := q_load_one rfl rfl rfl (reads_row rfl hin rfl hat) rfl) (h := ?_) | refine s_i (hq := q_load_agg rfl rfl rfl rfl (reads_row rfl hin rfl hat) (Nat.le_of_ble_eq_true rfl)) (h := ?_) | refine p_ih (hq := fun N => q_load_one rfl rfl rfl (reads_row rfl hin rfl hat) rfl) (h := ?_) | refine p_ih (hq := fun N => q_load_agg rfl rfl rfl rfl (reads_row rfl hin rfl hat) (Nat.le_of_ble_eq_true rfl)) (h := ?_) | (refine s_set (r := (ls.set k { ls.getD k default with Out := S }).map encLane) ?_ ?_ (h := ?_); (focus (first | omega | (simp only [List.length_map, List.length_append, List.length_take, List.length_drop, List.length_replicate]; omega))); (focus ((exact hst2)))) | (refine p_set (r := (ls.set k { ls.getD k default with Out := S }).map encLane) ?_ ?_ (h := ?_); (focus (first | omega | (simp only [List.length_map, List.length_append, List.length_take, List.length_drop, List.length_replicate]; omega))); (focus ((exact hst2)))) | (refine s_app (r := (o ++ [wId F (ls.getD k default).Id]).map encFrame) ?_ ?_ ?_ ?_ (h := ?_); (focus (first | ((rw [List.map_append]; rfl)) | with_reducible rfl | with_reducible exact List.nil_append _ | with_reducible exact (List.map_append ..).symm | (rw [take_snoc (by assumption), List.map_append]; rfl) | (rw [List.map_append]; rfl) | (simp; done))); (focus (first | exact len_none | exact len_one rfl | exact len_two rfl rfl | exact len_enc (fun _ => rfl))); (focus ((conv => lhs; rhs; whnf); simp only [List.length_map, List.length_append, List.length_cons, List.length_nil, List.length_take]; omega)); (focus (simp only [List.length_map, List.length_append, List.length_cons, List.length_nil, List.length_take]; omega))) | (refine s_app0R (r := (o ++ [wId F (ls.getD k default).Id]).map encFrame) ?_ ?_ ?_ ?_ (h := ?_); (focus (first | ((rw [List.map_append]; rfl)) | with_reducible rfl | with_reducible exact List.nil_append _ | with_reducible exact (List.map_append ..).symm | (rw [take_snoc (by assumption), List.map_append]; rfl) | (rw [List.map_append]; rfl) | (simp; done))); (focus (first | exact len_none | exact len_one rfl | exact len_two rfl rfl | exact len_enc (fun _ => rfl))); (focus ((conv => lhs; rhs; whnf); simp only [List.length_map, List.length_append, List.length_cons, List.length_nil, List.length_take]; omega)); (focus (simp only [List.length_map, List.length_append, List.length_cons, List.length_nil, List.length_take]; omega))) | (refine p_app (r := (o ++ [wId F (ls.getD k default).Id]).map encFrame) ?_ ?_ ?_ ?_ (h := ?_); (focus (first | ((rw [List.map_append]; rfl)) | with_reducible rfl | with_reducible exact List.nil_append _ | with_reducible exact (List.map_append ..).symm | (rw [take_snoc (by assumption), List.map_append]; rfl) | (rw [List.map_append]; rfl) | (simp; done))); (focus (first | exact len_none | exact len_one rfl | exact len_two rfl rfl | exact len_enc (fun _ => rfl))); (focus ((conv => lhs; rhs; whnf); simp only [List.length_map, List.length_append, List.length_cons, List.length_nil, List.length_take]; omega)); (focus (simp only [List.length_map, List.length_append, List.length_cons, List.length_nil, List.length_take]; omega))) | (refine p_app0R (r := (o ++ [wId F (ls.getD k default).Id]).map encFrame) ?_ ?_ ?_ ?_ (h := ?_); (focus (first | ((rw [List.map_append]; rfl)) | with_reducible rfl | with_reducible exact List.nil_append _ | with_reducible exact (List.map_append ..).symm | (rw [take_snoc (by assumption), List.map_append]; rfl) | (rw [List.map_append]; rfl) | (simp; done))); (focus (first | exact len_none | exact len_one rfl | exact len_two rfl rfl | exact len_enc (fun _ => rfl))); (focus ((conv => lhs; rhs; whnf); simp only [List.length_map, List.length_append, List.length_cons, List.length_nil, List.length_take]; omega)); (focus (simp only [List.length_map, List.length_append, List.length_cons, List.length_nil, List.length_take]; omega))) | (refine goI_ ?_; ((repeat' first | exact True.intro | refine Two.mk ?_ ?_); all_goals intros)) | refine s_i (h := ?_) | refine s_i (hq := q_index_ro rfl rfl rfl (by first | exact lit0 | exact lit1 | exact lit2 | exact lit3 | rfl) (by simp only [List.length_cons, List.length_nil]; omega) rfl rfl rfl rfl) (h := ?_) | refine p_i (h := ?_) | refine p_ih (h := ?_) | refine s_lit (h := ?_) | refine p_lit (h := ?_) | refine p_lit0 (h := ?_) | refine s_lit0 (h := ?_) | refine s_ixa (h := ?_) | refine s_insert (h := ?_) | (refine s_sadd rfl ?_ (h := ?_); (focus (first | omega | (simp only [List.length_append, List.length_map, List.length_cons, List.length_nil, List.length_take, List.length_drop]; omega)))) | (refine p_sadd rfl ?_ (h := ?_); (focus (first | omega | (simp only [List.length_append, List.length_map, List.length_cons, List.length_nil, List.length_take, List.length_drop]; omega)))) | fail "")
        all_goals first
          | (refine ⟨(k + 1, ls.set k { ls.getD k default with Out := S }, used + (S.Next - (ls.getD k default).Out.Next), o ++ [wId F (ls.getD k default).Id]), ?_, ?_, ?_⟩; rotate_left 2; (exact lessA_); (focus (dsimp only; omega)); (focus (exact ⟨hkn, by (rw [show lanes.length - (k + 1) = n by omega]; exact hm), by (rw [List.length_set]; exact hll), fun j hj => by (rw [getD_set_ne (by omega)]; exact hsame j (by omega)), by (dsimp only; omega), okFs_snoc hok hwF hfF, by (rw [List.length_append, List.length_singleton]; omega)⟩)))
          | (exfalso; omega)
          | skip
      · rw [if_neg hgo] at hm
        cases ok
        all_goals
          (repeat' first | (refine s_snap (hs) (h := ?_)) | (refine p_snapO (hs) (h := ?_)) | (refine s_call (hp) (h := ?_)) | (refine p_call (hp) (h := ?_)) | refine s_i (hq := q_load_one rfl rfl rfl (reads_row rfl hin rfl hat) rfl) (h := ?_) | refine s_i (hq := q_load_agg rfl rfl rfl rfl (reads_row rfl hin rfl hat) (Nat.le_of_ble_eq_true rfl)) (h := ?_) | refine p_ih (hq := fun N => q_load_one rfl rfl rfl (reads_row rfl hin rfl hat) rfl) (h := ?_) | refine p_ih (hq := fun N => q_load_agg rfl rfl rfl rfl (reads_row rfl hin rfl hat) (Nat.le_of_ble_eq_true rfl)) (h := ?_) | (refine goU_ 8 ?_; ((repeat' first | exact True.intro | refine Two.mk ?_ ?_); all_goals intros)) | fail "")
          rw [hm2]
          refine r_seq ?_
          refine r_drawW [] ?_
          (repeat' first | (refine s_snap (hs) (h := ?_)) | (refine p_snapO (hs) (h := ?_)) | (refine s_call (hp) (h := ?_)) | (refine p_call (hp) (h := ?_)) | refine s_i (hq := q_load_one rfl rfl rfl (reads_row rfl hin rfl hat) rfl) (h := ?_) | refine s_i (hq := q_load_agg rfl rfl rfl rfl (reads_row rfl hin rfl hat) (Nat.le_of_ble_eq_true rfl)) (h := ?_) | refine p_ih (hq := fun N => q_load_one rfl rfl rfl (reads_row rfl hin rfl hat) rfl) (h := ?_) | refine p_ih (hq := fun N => q_load_agg rfl rfl rfl rfl (reads_row rfl hin rfl hat) (Nat.le_of_ble_eq_true rfl)) (h := ?_) | (refine goI_ ?_; ((repeat' first | exact True.intro | refine Two.mk ?_ ?_); all_goals intros)) | refine s_i (h := ?_) | refine s_i (hq := q_index_ro rfl rfl rfl (by first | exact lit0 | exact lit1 | exact lit2 | exact lit3 | rfl) (by simp only [List.length_cons, List.length_nil]; omega) rfl rfl rfl rfl) (h := ?_) | refine p_i (h := ?_) | refine p_ih (h := ?_) | refine s_lit (h := ?_) | refine p_lit (h := ?_) | refine p_lit0 (h := ?_) | refine s_lit0 (h := ?_) | refine s_ixa (h := ?_) | refine s_insert (h := ?_) | (refine s_sadd rfl ?_ (h := ?_); (focus (first | omega | (simp only [List.length_append, List.length_map, List.length_cons, List.length_nil, List.length_take, List.length_drop]; omega)))) | (refine p_sadd rfl ?_ (h := ?_); (focus (first | omega | (simp only [List.length_append, List.length_map, List.length_cons, List.length_nil, List.length_take, List.length_drop]; omega)))) | fail "")
          all_goals first
            | (refine ⟨(k + 1, ls, used, o), ?_, ?_, ?_⟩; rotate_left 2; (exact lessA_); (focus (dsimp only; omega)); (focus (exact ⟨hkn, by (rw [show lanes.length - (k + 1) = n by omega]; exact hm), hll, fun j hj => hsame j (by omega), hus, hok, ho12⟩)))
            | (exfalso; omega)
            | (exfalso; exact hgo ⟨by omega, rfl⟩)
            | skip
  · have hkl : k = lanes.length := by omega
    subst hkl
    rw [Nat.sub_self] at hm
    unfold packN at hm
    subst hm
    (repeat' first | (refine go_ ?_; ((repeat' first | exact True.intro | refine Two.mk ?_ ?_); all_goals intros)) | fail "")
    all_goals first
      | (exact endmA_)
      | skip
end Go.Proofs.Ytfdomanbdfekhaa
