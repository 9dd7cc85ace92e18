/-
  request.Feed: what it answers. No condition.
-/
import Derived.Test.YthpophgcmgdpjaaGo
import Derived.Test.YthpophgcmgdpjaaFeedP
set_option linter.unusedVariables false
set_option linter.unusedSimpArgs false
set_option linter.unusedVariables false
namespace Go.Proofs.Ythpophgcmgdpjaa
set_option maxRecDepth 100000
attribute [local irreducible] Run RunL QStep GStep Fn Less PL FnM

set_option maxHeartbeats 8000000 in
theorem feed_fn (r : DReader) (t : DTable) (b : List UInt8) (fin : Bool) (hr : wfReader r) (hw : wfTable t) (hb : b.length * 1 ≤ 140737488351232) : Fn Try.prog 34 [.agg (encReader r), .agg (encTable t), .ro (b.map encB), .lit (.bool fin)] (encFd (fdR r t b fin)) := by
  unfold fdR
  by_cases c1 : 800 < r.Held.length ∨ 200 < r.Body.length ∨ 800 < b.length
  · rw [if_pos c1]
    refine fn_of_run (by kernel_rfl) Try.func34 rfl (by kernel_rfl) ?_
    (repeat' first | (refine go_ ?_; ((repeat' first | exact True.intro | refine Two.mk ?_ ?_); all_goals intros)) | fail "")
    all_goals first
      | (exact endwA_)
      | (exfalso; omega)
      | skip
  · rw [if_neg c1]
    cases hE : r.Ended with
    | true =>
      rw [if_pos rfl]
      obtain ⟨held, flds, begun, body, ended⟩ := r
      unfold encReader
      dsimp only at *
      subst hE
      refine fn_of_run (by kernel_rfl) Try.func34 rfl (by kernel_rfl) ?_
      (repeat' first | (refine go_ ?_; ((repeat' first | exact True.intro | refine Two.mk ?_ ?_); all_goals intros)) | fail "")
      all_goals first
        | (exact endwA_)
        | skip
    | false =>
      rw [if_neg (by simp)]
      have h1 := reader_fnm r hr
      have hok : RdOk (withHeld r (r.Held ++ b)) := ⟨by unfold withHeld; dsimp only; rw [List.length_append]; omega, by unfold withHeld; dsimp only; omega, hr.2.1, hr.2.2.1, hE⟩
      have hn : (withHeld r (r.Held ++ b)).Held.length < r.Held.length + b.length + 1 := by unfold withHeld; dsimp only; rw [List.length_append]; omega
      generalize hR : fdRun t fin (r.Held.length + b.length + 1) (withHeld r (r.Held ++ b)) = R
      generalize hN : r.Held.length + b.length + 1 = N at *
      obtain ⟨held, flds, begun, body, ended⟩ := r
      unfold encReader at *
      dsimp only at *
      subst hE
      refine fn_of_run (by kernel_rfl) Try.func34 rfl (by kernel_rfl) ?_
      (repeat' first | (refine s_callM [] (h1) (h := ?_)) | (refine s_callM0 [] (h1) (h := ?_)) | (refine p_callN (h1) (h := ?_)) | (refine s_app (r := (held ++ b).map encB) ?_ ?_ ?_ ?_ (h := ?_); (focus (first | with_reducible rfl | with_reducible exact List.nil_append _ | with_reducible exact (List.map_append ..).symm | (rw [take_snoc (by assumption), List.map_append]; rfl) | (rw [List.map_append]; rfl) | (simp; done))); (focus (first | exact len_none | exact len_one rfl | exact len_two rfl rfl | exact len_enc (fun _ => rfl))); (focus ((conv => lhs; rhs; whnf); simp only [List.length_map, List.length_append, List.length_cons, List.length_nil, List.length_take]; omega)); (focus (simp only [List.length_map, List.length_append, List.length_cons, List.length_nil, List.length_take]; omega))) | (refine s_app0R (r := (held ++ b).map encB) ?_ ?_ ?_ ?_ (h := ?_); (focus (first | with_reducible rfl | with_reducible exact List.nil_append _ | with_reducible exact (List.map_append ..).symm | (rw [take_snoc (by assumption), List.map_append]; rfl) | (rw [List.map_append]; rfl) | (simp; done))); (focus (first | exact len_none | exact len_one rfl | exact len_two rfl rfl | exact len_enc (fun _ => rfl))); (focus ((conv => lhs; rhs; whnf); simp only [List.length_map, List.length_append, List.length_cons, List.length_nil, List.length_take]; omega)); (focus (simp only [List.length_map, List.length_append, List.length_cons, List.length_nil, List.length_take]; omega))) | (refine p_app (r := (held ++ b).map encB) ?_ ?_ ?_ ?_ (h := ?_); (focus (first | with_reducible rfl | with_reducible exact List.nil_append _ | with_reducible exact (List.map_append ..).symm | (rw [take_snoc (by assumption), List.map_append]; rfl) | (rw [List.map_append]; rfl) | (simp; done))); (focus (first | exact len_none | exact len_one rfl | exact len_two rfl rfl | exact len_enc (fun _ => rfl))); (focus ((conv => lhs; rhs; whnf); simp only [List.length_map, List.length_append, List.length_cons, List.length_nil, List.length_take]; omega)); (focus (simp only [List.length_map, List.length_append, List.length_cons, List.length_nil, List.length_take]; omega))) | (refine p_app0R (r := (held ++ b).map encB) ?_ ?_ ?_ ?_ (h := ?_); (focus (first | with_reducible rfl | with_reducible exact List.nil_append _ | with_reducible exact (List.map_append ..).symm | (rw [take_snoc (by assumption), List.map_append]; rfl) | (rw [List.map_append]; rfl) | (simp; done))); (focus (first | exact len_none | exact len_one rfl | exact len_two rfl rfl | exact len_enc (fun _ => rfl))); (focus ((conv => lhs; rhs; whnf); simp only [List.length_map, List.length_append, List.length_cons, List.length_nil, List.length_take]; omega)); (focus (simp only [List.length_map, List.length_append, List.length_cons, List.length_nil, List.length_take]; omega))) | (refine go_ ?_; ((repeat' first | exact True.intro | refine Two.mk ?_ ?_); all_goals intros)) | fail "")
      refine r_for (fun x : DReader => ⟨[(3, .lit (.bool fin)), (4, .ptr 0 0 0 0), (5, .ptr 1 0 0 0), (8, .ptr 2 0 0 0)], [(0, some (.box 51 [.ro (x.Held.map encB), .ro (x.Fields.map encField), .lit (.bool x.Begun), .own 3, .lit (.bool x.Ended)])), (1, some (.box 24 (encTable t))), (2, some (.box 51 [.lit (.slice none 0 0), .lit (.slice none 0 0), .lit (.bool false), .lit (.slice none 0 0), .lit (.bool false)])), (3, some (.row 5 1 (x.Body.map encB)))], 4, Try.f34.ntmps⟩)
        (fun x => RdOk x ∧ ∃ n, x.Held.length < n ∧ fdRun t fin n x = R) (fun x => x.Held.length) (withHeld ⟨held, flds, begun, body, false⟩ (held ++ b)) ⟨hok, N, hn, hR⟩ ?_ ?_
      · (exact lessA_)
      clear hok hn hR h1 c1 hr
      rintro x ⟨hok, n, hn, hrun⟩
      obtain ⟨n, rfl⟩ := Nat.exists_eq_succ_of_ne_zero (show n ≠ 0 by omega)
      have hxh := hok.held
      have hxb := hok.body
      have hxe := hok.ended
      have hfi := hok.flds
      have hwf := rdOk_wf hok
      have h2 := reader_fn x hwf
      by_cases c0 : x.Held.length = 0
      · have hrun : fdEnd fin x = R := by unfold fdRun at hrun; rwa [if_pos c0] at hrun
        have h3 := reader_fn ⟨x.Held, x.Fields, x.Begun, x.Body, fin⟩ hwf
        obtain ⟨held, flds, begun, body, ended⟩ := x
        unfold encReader at h2 h3
        dsimp only at *
        subst hxe hrun
        cases fin
        · (repeat' first | (refine go_ ?_; ((repeat' first | exact True.intro | refine Two.mk ?_ ?_); all_goals intros)) | fail "")
          refine l_less (st' := ⟨[(98, .agg [.ro (held.map encB), .ro (flds.map encField), .lit (.bool begun), .ro (body.map encB), .lit (.bool false)]), (8, .ptr 0 0 0 0)], [(0, some (.box 51 [.lit (.slice none 0 0), .lit (.slice none 0 0), .lit (.bool false), .lit (.slice none 0 0), .lit (.bool false)]))], 1, Try.f34.ntmps⟩) ?_ ?_
          · (exact lessA_)
          · (repeat' first | (refine s_call (h3) (h := ?_)) | (refine p_call (h3) (h := ?_)) | (refine go_ ?_; ((repeat' first | exact True.intro | refine Two.mk ?_ ?_); all_goals intros)) | fail "")
            all_goals (exact endwA_)
        · cases begun
          · (repeat' first | (refine go_ ?_; ((repeat' first | exact True.intro | refine Two.mk ?_ ?_); all_goals intros)) | fail "")
            all_goals (exact endwA_)
          · (repeat' first | (refine go_ ?_; ((repeat' first | exact True.intro | refine Two.mk ?_ ?_); all_goals intros)) | fail "")
            refine l_less (st' := ⟨[(98, .agg [.ro (held.map encB), .ro (flds.map encField), .lit (.bool true), .ro (body.map encB), .lit (.bool true)]), (8, .ptr 0 0 0 0)], [(0, some (.box 51 [.lit (.slice none 0 0), .lit (.slice none 0 0), .lit (.bool false), .lit (.slice none 0 0), .lit (.bool false)]))], 1, Try.f34.ntmps⟩) ?_ ?_
            · (exact lessA_)
            · (repeat' first | (refine s_call (h3) (h := ?_)) | (refine p_call (h3) (h := ?_)) | (refine go_ ?_; ((repeat' first | exact True.intro | refine Two.mk ?_ ?_); all_goals intros)) | fail "")
              all_goals (exact endwA_)
      · unfold fdRun at hrun
        rw [if_neg c0] at hrun
        have h3 := next_fn x.Held (by omega)
        rcases hx : nxR x.Held with ⟨kind, bd, u, e⟩
        rw [hx] at hrun h3
        unfold encNx at h3
        dsimp only at hrun h3
        have hnx := nxR_ok hx
        by_cases ce : e = 0
        · subst ce
          obtain ⟨_, u2, ul, bl, kl⟩ := hnx.resolve_right (fun h => by rcases h with h | h <;> (have := h.1; omega))
          rw [if_neg (fun h => by have := h.1; omega), if_neg (by omega)] at hrun
          have hyo := frR_ok (t := t) (kind := kind) (b := bd) hok
          by_cases cf : fits x kind bd
          · have h4 := frame_app t x kind bd hw bl cf
            have hy0 : (frR t x kind bd).2 = 0 := by
              obtain ⟨rfl, b2, b3⟩ := cf
              unfold frR
              rw [if_neg (by rw [b2]; simp), if_neg (by omega), if_pos rfl, if_neg (by omega)]
            obtain ⟨hyh, hy1⟩ := hyo hy0
            clear hyo
            have hyo2 := rdOk_drop hy1 u x.Held hxh
            rw [hy0, if_neg (by omega), if_neg (by omega)] at hrun
            generalize frR t x kind bd = y at *
            obtain ⟨⟨yheld, yflds, ybegun, ybody, yended⟩, ye⟩ := y
            obtain ⟨held, flds, begun, body, ended⟩ := x
            unfold encReader at h2
            unfold cR at h4
            unfold withHeld at hrun hyo2
            dsimp only at *
            subst hy0 hyh hxe
            have hye := hy1.ended
            dsimp only at hye
            subst hye
            have hdl : (yheld.drop u).length = yheld.length - u := List.length_drop
            (repeat' first | (refine s_call (h3) (h := ?_)) | (refine p_call (h3) (h := ?_)) | (refine s_callM [3] (h4) (h := ?_)) | (refine s_callM0 [3] (h4) (h := ?_)) | (refine p_callM [3] (h4) (h := ?_)) | (refine s_slice (r := yheld.drop u) (u) (yheld.length) ?_ ?_ ?_ ?_ ?_ (h := ?_); (focus (first | rfl | (simp only [Option.getD_some, Option.getD_none, List.length_map]; omega))); (focus (first | rfl | (simp only [Option.getD_some, Option.getD_none, List.length_map]; omega))); (focus omega); (focus omega); (focus (first | with_reducible rfl | assumption | (simp; done)))) | (refine p_slice (r := yheld.drop u) (u) (yheld.length) ?_ ?_ ?_ ?_ ?_ (h := ?_); (focus (first | rfl | (simp only [Option.getD_some, Option.getD_none, List.length_map]; omega))); (focus (first | rfl | (simp only [Option.getD_some, Option.getD_none, List.length_map]; omega))); (focus omega); (focus omega); (focus (first | with_reducible rfl | assumption | (simp; done)))) | (refine s_slice_str (r := yheld.drop u) (u) (yheld.length) ?_ ?_ ?_ ?_ ?_ (h := ?_); (focus (first | rfl | (simp only [Option.getD_some, Option.getD_none, List.length_map]; omega))); (focus (first | rfl | (simp only [Option.getD_some, Option.getD_none, List.length_map]; omega))); (focus omega); (focus omega); (focus (first | with_reducible rfl | assumption | (simp; done)))) | (refine p_slice_str (r := yheld.drop u) (u) (yheld.length) ?_ ?_ ?_ ?_ ?_ (h := ?_); (focus (first | rfl | (simp only [Option.getD_some, Option.getD_none, List.length_map]; omega))); (focus (first | rfl | (simp only [Option.getD_some, Option.getD_none, List.length_map]; omega))); (focus omega); (focus omega); (focus (first | with_reducible rfl | assumption | (simp; done)))) | (refine s_sliceO (r := yheld.drop u) (u) (yheld.length) ?_ ?_ ?_ ?_ ?_ (h := ?_); (focus (first | rfl | (simp only [Option.getD_some, Option.getD_none, List.length_map]; omega))); (focus (first | rfl | (simp only [Option.getD_some, Option.getD_none, List.length_map]; omega))); (focus omega); (focus omega); (focus (first | with_reducible rfl | assumption | (simp; done)))) | (refine s_sliceM (r := yheld.drop u) (u) (yheld.length) ?_ ?_ ?_ ?_ ?_ (h := ?_); (focus (first | rfl | (simp only [Option.getD_some, Option.getD_none, List.length_map]; omega))); (focus (first | rfl | (simp only [Option.getD_some, Option.getD_none, List.length_map]; omega))); (focus omega); (focus omega); (focus (first | with_reducible rfl | assumption | (simp; done)))) | (refine s_appro (r := (yheld.drop u).map encB) ?_ ?_ ?_ ?_ (h := ?_); (focus (first | with_reducible rfl | with_reducible exact List.nil_append _ | with_reducible exact (List.map_append ..).symm | (rw [take_snoc (by assumption), List.map_append]; rfl) | (rw [List.map_append]; rfl) | (simp; done))); (focus (first | exact len_none | exact len_one rfl | exact len_two rfl rfl | exact len_enc (fun _ => rfl))); (focus ((conv => lhs; rhs; whnf); simp only [List.length_map, List.length_append, List.length_cons, List.length_nil, List.length_take]; omega)); (focus (simp only [List.length_map, List.length_append, List.length_cons, List.length_nil, List.length_take]; omega))) | (refine s_app0roR (r := (yheld.drop u).map encB) ?_ ?_ ?_ ?_ (h := ?_); (focus (first | with_reducible rfl | with_reducible exact List.nil_append _ | with_reducible exact (List.map_append ..).symm | (rw [take_snoc (by assumption), List.map_append]; rfl) | (rw [List.map_append]; rfl) | (simp; done))); (focus (first | exact len_none | exact len_one rfl | exact len_two rfl rfl | exact len_enc (fun _ => rfl))); (focus ((conv => lhs; rhs; whnf); simp only [List.length_map, List.length_append, List.length_cons, List.length_nil, List.length_take]; omega)); (focus (simp only [List.length_map, List.length_append, List.length_cons, List.length_nil, List.length_take]; omega))) | (refine p_appro (r := (yheld.drop u).map encB) ?_ ?_ ?_ ?_ (h := ?_); (focus (first | with_reducible rfl | with_reducible exact List.nil_append _ | with_reducible exact (List.map_append ..).symm | (rw [take_snoc (by assumption), List.map_append]; rfl) | (rw [List.map_append]; rfl) | (simp; done))); (focus (first | exact len_none | exact len_one rfl | exact len_two rfl rfl | exact len_enc (fun _ => rfl))); (focus ((conv => lhs; rhs; whnf); simp only [List.length_map, List.length_append, List.length_cons, List.length_nil, List.length_take]; omega)); (focus (simp only [List.length_map, List.length_append, List.length_cons, List.length_nil, List.length_take]; omega))) | (refine p_app0roR (r := (yheld.drop u).map encB) ?_ ?_ ?_ ?_ (h := ?_); (focus (first | with_reducible rfl | with_reducible exact List.nil_append _ | with_reducible exact (List.map_append ..).symm | (rw [take_snoc (by assumption), List.map_append]; rfl) | (rw [List.map_append]; rfl) | (simp; done))); (focus (first | exact len_none | exact len_one rfl | exact len_two rfl rfl | exact len_enc (fun _ => rfl))); (focus ((conv => lhs; rhs; whnf); simp only [List.length_map, List.length_append, List.length_cons, List.length_nil, List.length_take]; omega)); (focus (simp only [List.length_map, List.length_append, List.length_cons, List.length_nil, List.length_take]; omega))) | (refine go_ ?_; ((repeat' first | exact True.intro | refine Two.mk ?_ ?_); all_goals intros)) | fail "")
            all_goals first
              | (refine ⟨DReader.mk (yheld.drop u) yflds ybegun ybody false, ?_, ?_, ?_⟩; rotate_left 2; (exact lessA_); (focus (dsimp only; omega)); (focus (exact ⟨hyo2, n, by dsimp only; omega, hrun⟩)))
              | skip
          · have h4 := frame_keep t x kind bd hw bl kl hxb cf
            have hyb := frR_body (t := t) cf
            generalize hyy : frR t x kind bd = y at *
            obtain ⟨⟨yheld, yflds, ybegun, ybody, yended⟩, ye⟩ := y
            obtain ⟨held, flds, begun, body, ended⟩ := x
            unfold encReader at h2
            unfold cR at h4
            dsimp only at *
            subst hxe hyb
            by_cases c14 : ye = 14
            · rw [if_pos c14] at hrun
              subst hrun c14
              (repeat' first | (refine s_call (h3) (h := ?_)) | (refine p_call (h3) (h := ?_)) | (refine s_callM [3] (h4) (h := ?_)) | (refine s_callM0 [3] (h4) (h := ?_)) | (refine p_callM [3] (h4) (h := ?_)) | (refine go_ ?_; ((repeat' first | exact True.intro | refine Two.mk ?_ ?_); all_goals intros)) | fail "")
              refine l_less (st' := ⟨[(74, .agg [.ro (held.map encB), .ro (flds.map encField), .lit (.bool begun), .ro (ybody.map encB), .lit (.bool false)]), (8, .ptr 0 0 0 0), (13, .lit (.int .i64 14))], [(0, some (.box 51 [.lit (.slice none 0 0), .lit (.slice none 0 0), .lit (.bool false), .lit (.slice none 0 0), .lit (.bool false)]))], 1, Try.f34.ntmps⟩) ?_ ?_
              · (exact lessA_)
              · (repeat' first | (refine s_call (h2) (h := ?_)) | (refine p_call (h2) (h := ?_)) | (refine go_ ?_; ((repeat' first | exact True.intro | refine Two.mk ?_ ?_); all_goals intros)) | fail "")
                all_goals first
                  | (exact endwA_)
                  | skip
            · rw [if_neg c14] at hrun
              by_cases cy : ye = 0
              · obtain ⟨hyh, hy1⟩ := hyo cy
                have hyo2 := rdOk_drop hy1 u held hxh
                subst cy hyh
                rw [if_neg (by omega)] at hrun
                unfold withHeld at hrun hyo2
                dsimp only at hrun hyo2
                have hye := hy1.ended
                dsimp only at hye
                subst hye
                have hdl : (yheld.drop u).length = yheld.length - u := List.length_drop
                (repeat' first | (refine s_call (h3) (h := ?_)) | (refine p_call (h3) (h := ?_)) | (refine s_callM [3] (h4) (h := ?_)) | (refine s_callM0 [3] (h4) (h := ?_)) | (refine p_callM [3] (h4) (h := ?_)) | (refine s_slice (r := yheld.drop u) (u) (yheld.length) ?_ ?_ ?_ ?_ ?_ (h := ?_); (focus (first | rfl | (simp only [Option.getD_some, Option.getD_none, List.length_map]; omega))); (focus (first | rfl | (simp only [Option.getD_some, Option.getD_none, List.length_map]; omega))); (focus omega); (focus omega); (focus (first | with_reducible rfl | assumption | (simp; done)))) | (refine p_slice (r := yheld.drop u) (u) (yheld.length) ?_ ?_ ?_ ?_ ?_ (h := ?_); (focus (first | rfl | (simp only [Option.getD_some, Option.getD_none, List.length_map]; omega))); (focus (first | rfl | (simp only [Option.getD_some, Option.getD_none, List.length_map]; omega))); (focus omega); (focus omega); (focus (first | with_reducible rfl | assumption | (simp; done)))) | (refine s_slice_str (r := yheld.drop u) (u) (yheld.length) ?_ ?_ ?_ ?_ ?_ (h := ?_); (focus (first | rfl | (simp only [Option.getD_some, Option.getD_none, List.length_map]; omega))); (focus (first | rfl | (simp only [Option.getD_some, Option.getD_none, List.length_map]; omega))); (focus omega); (focus omega); (focus (first | with_reducible rfl | assumption | (simp; done)))) | (refine p_slice_str (r := yheld.drop u) (u) (yheld.length) ?_ ?_ ?_ ?_ ?_ (h := ?_); (focus (first | rfl | (simp only [Option.getD_some, Option.getD_none, List.length_map]; omega))); (focus (first | rfl | (simp only [Option.getD_some, Option.getD_none, List.length_map]; omega))); (focus omega); (focus omega); (focus (first | with_reducible rfl | assumption | (simp; done)))) | (refine s_sliceO (r := yheld.drop u) (u) (yheld.length) ?_ ?_ ?_ ?_ ?_ (h := ?_); (focus (first | rfl | (simp only [Option.getD_some, Option.getD_none, List.length_map]; omega))); (focus (first | rfl | (simp only [Option.getD_some, Option.getD_none, List.length_map]; omega))); (focus omega); (focus omega); (focus (first | with_reducible rfl | assumption | (simp; done)))) | (refine s_sliceM (r := yheld.drop u) (u) (yheld.length) ?_ ?_ ?_ ?_ ?_ (h := ?_); (focus (first | rfl | (simp only [Option.getD_some, Option.getD_none, List.length_map]; omega))); (focus (first | rfl | (simp only [Option.getD_some, Option.getD_none, List.length_map]; omega))); (focus omega); (focus omega); (focus (first | with_reducible rfl | assumption | (simp; done)))) | (refine s_appro (r := (yheld.drop u).map encB) ?_ ?_ ?_ ?_ (h := ?_); (focus (first | with_reducible rfl | with_reducible exact List.nil_append _ | with_reducible exact (List.map_append ..).symm | (rw [take_snoc (by assumption), List.map_append]; rfl) | (rw [List.map_append]; rfl) | (simp; done))); (focus (first | exact len_none | exact len_one rfl | exact len_two rfl rfl | exact len_enc (fun _ => rfl))); (focus ((conv => lhs; rhs; whnf); simp only [List.length_map, List.length_append, List.length_cons, List.length_nil, List.length_take]; omega)); (focus (simp only [List.length_map, List.length_append, List.length_cons, List.length_nil, List.length_take]; omega))) | (refine s_app0roR (r := (yheld.drop u).map encB) ?_ ?_ ?_ ?_ (h := ?_); (focus (first | with_reducible rfl | with_reducible exact List.nil_append _ | with_reducible exact (List.map_append ..).symm | (rw [take_snoc (by assumption), List.map_append]; rfl) | (rw [List.map_append]; rfl) | (simp; done))); (focus (first | exact len_none | exact len_one rfl | exact len_two rfl rfl | exact len_enc (fun _ => rfl))); (focus ((conv => lhs; rhs; whnf); simp only [List.length_map, List.length_append, List.length_cons, List.length_nil, List.length_take]; omega)); (focus (simp only [List.length_map, List.length_append, List.length_cons, List.length_nil, List.length_take]; omega))) | (refine p_appro (r := (yheld.drop u).map encB) ?_ ?_ ?_ ?_ (h := ?_); (focus (first | with_reducible rfl | with_reducible exact List.nil_append _ | with_reducible exact (List.map_append ..).symm | (rw [take_snoc (by assumption), List.map_append]; rfl) | (rw [List.map_append]; rfl) | (simp; done))); (focus (first | exact len_none | exact len_one rfl | exact len_two rfl rfl | exact len_enc (fun _ => rfl))); (focus ((conv => lhs; rhs; whnf); simp only [List.length_map, List.length_append, List.length_cons, List.length_nil, List.length_take]; omega)); (focus (simp only [List.length_map, List.length_append, List.length_cons, List.length_nil, List.length_take]; omega))) | (refine p_app0roR (r := (yheld.drop u).map encB) ?_ ?_ ?_ ?_ (h := ?_); (focus (first | with_reducible rfl | with_reducible exact List.nil_append _ | with_reducible exact (List.map_append ..).symm | (rw [take_snoc (by assumption), List.map_append]; rfl) | (rw [List.map_append]; rfl) | (simp; done))); (focus (first | exact len_none | exact len_one rfl | exact len_two rfl rfl | exact len_enc (fun _ => rfl))); (focus ((conv => lhs; rhs; whnf); simp only [List.length_map, List.length_append, List.length_cons, List.length_nil, List.length_take]; omega)); (focus (simp only [List.length_map, List.length_append, List.length_cons, List.length_nil, List.length_take]; omega))) | (refine go_ ?_; ((repeat' first | exact True.intro | refine Two.mk ?_ ?_); all_goals intros)) | fail "")
                all_goals first
                  | (refine ⟨DReader.mk (yheld.drop u) yflds ybegun ybody false, ?_, ?_, ?_⟩; rotate_left 2; (exact lessA_); (focus (dsimp only; omega)); (focus (exact ⟨hyo2, n, by dsimp only; omega, hrun⟩)))
                  | skip
              · rw [if_pos cy] at hrun
                subst hrun
                (repeat' first | (refine s_call (h3) (h := ?_)) | (refine p_call (h3) (h := ?_)) | (refine s_callM [3] (h4) (h := ?_)) | (refine s_callM0 [3] (h4) (h := ?_)) | (refine p_callM [3] (h4) (h := ?_)) | (refine go_ ?_; ((repeat' first | exact True.intro | refine Two.mk ?_ ?_); all_goals intros)) | fail "")
                all_goals first
                  | (exact endwA_)
                  | skip
        · obtain ⟨held, flds, begun, body, ended⟩ := x
          dsimp only at *
          subst hxe
          by_cases c4 : e = 4 ∧ fin = false
          · rw [if_pos c4] at hrun
            obtain ⟨rfl, rfl⟩ := c4
            subst hrun
            (repeat' first | (refine s_call (h3) (h := ?_)) | (refine p_call (h3) (h := ?_)) | (refine go_ ?_; ((repeat' first | exact True.intro | refine Two.mk ?_ ?_); all_goals intros)) | fail "")
            all_goals first
              | (exact endwA_)
              | skip
          · rw [if_neg c4, if_pos ce] at hrun
            subst hrun
            cases fin
            all_goals (repeat' first | (refine s_call (h3) (h := ?_)) | (refine p_call (h3) (h := ?_)) | (refine go_ ?_; ((repeat' first | exact True.intro | refine Two.mk ?_ ?_); all_goals intros)) | fail "")
            all_goals first
              | (exact endwA_)
              | (exfalso; exact c4 ⟨by omega, rfl⟩)
              | skip
end Go.Proofs.Ythpophgcmgdpjaa
