/-
  The reference's FieldsOf: what it answers. No condition.
-/
import Derived.Test.YthpophgcmgdpjaaGo
import Derived.Test.YthpophgcmgdpjaaFldDr
set_option linter.unusedVariables false
set_option linter.unusedSimpArgs false
set_option linter.unusedVariables false
namespace Go.Proofs.Ythpophgcmgdpjaa
set_option maxRecDepth 100000
attribute [local irreducible] Run RunL QStep GStep Fn Less PL FnM

set_option maxHeartbeats 8000000 in
theorem fieldsOf_fn (t : DTable) (b : List UInt8) (hw : wfTable t) (hb : b.length ≤ 1000000000000000) : Fn Try.prog 16 [.agg (encTable t), .lit (.string (strB b))] (.tup [.ro ((deR t b).1.map encField), .lit (.int .i64 (deR t b).2)]) := by
  have h1 := tabFault_fn t hw
  unfold deR
  rcases tabFlt_cases t with ⟨h0, hok⟩ | ⟨h0, hbad⟩
  · rw [h0] at h1
    rw [if_neg (by omega)]
    unfold numF
    rw [if_neg nn0']
    have g1 := prefixOf_fn b 8 (by unfold I64; omega) hb
    have hk := @preD_ok b 8
    generalize preD b 8 = a at *
    obtain ⟨need, j, e⟩ := a
    dsimp only at *
    by_cases he : e = 0
    · subst he
      obtain ⟨need, j, rfl, rfl, q1, q2, q3⟩ := hk rfl
      rw [if_neg nn0']
      dsimp only
      rw [if_neg nn0', Int.toNat_natCast]
      clear hk h0
      by_cases hp : t.Put < (need : Int)
      · rw [if_pos hp]
        refine fn_of_run (by kernel_rfl) Try.func16 rfl (by kernel_rfl) ?_
        (repeat' first | (refine s_call (h1) (h := ?_)) | (refine p_call (h1) (h := ?_)) | (refine s_call (g1) (h := ?_)) | (refine p_call (g1) (h := ?_)) | (refine go_ ?_; ((repeat' first | exact True.intro | refine Two.mk ?_ ?_); all_goals intros)) | fail "")
        all_goals first
          | (exact endwA_)
          | skip
      · rw [if_neg hp]
        have hdl : (b.drop j).length = b.length - j := List.length_drop
        have et : (b.take b.length).drop j = b.drop j := by rw [List.take_length]
        generalize hR : deRun t need b.length (b.drop j) [] = R
        refine fn_of_run (by kernel_rfl) Try.func16 rfl (by kernel_rfl) ?_
        (repeat' first | (refine s_call (h1) (h := ?_)) | (refine p_call (h1) (h := ?_)) | (refine s_call (g1) (h := ?_)) | (refine p_call (g1) (h := ?_)) | (refine s_slice (r := b.drop j) (j) (b.length) ?_ ?_ ?_ ?_ ?_ (h := ?_); (focus (first | rfl | (simp only [Option.getD_some, Option.getD_none, List.length_map]; omega))); (focus (first | rfl | (simp only [Option.getD_some, Option.getD_none, List.length_map]; omega))); (focus omega); (focus omega); (focus (first | with_reducible rfl | assumption | (simp; done)))) | (refine p_slice (r := b.drop j) (j) (b.length) ?_ ?_ ?_ ?_ ?_ (h := ?_); (focus (first | rfl | (simp only [Option.getD_some, Option.getD_none, List.length_map]; omega))); (focus (first | rfl | (simp only [Option.getD_some, Option.getD_none, List.length_map]; omega))); (focus omega); (focus omega); (focus (first | with_reducible rfl | assumption | (simp; done)))) | (refine s_slice_str (r := b.drop j) (j) (b.length) ?_ ?_ ?_ ?_ ?_ (h := ?_); (focus (first | rfl | (simp only [Option.getD_some, Option.getD_none, List.length_map]; omega))); (focus (first | rfl | (simp only [Option.getD_some, Option.getD_none, List.length_map]; omega))); (focus omega); (focus omega); (focus (first | with_reducible rfl | assumption | (simp; done)))) | (refine p_slice_str (r := b.drop j) (j) (b.length) ?_ ?_ ?_ ?_ ?_ (h := ?_); (focus (first | rfl | (simp only [Option.getD_some, Option.getD_none, List.length_map]; omega))); (focus (first | rfl | (simp only [Option.getD_some, Option.getD_none, List.length_map]; omega))); (focus omega); (focus omega); (focus (first | with_reducible rfl | assumption | (simp; done)))) | (refine s_sliceO (r := b.drop j) (j) (b.length) ?_ ?_ ?_ ?_ ?_ (h := ?_); (focus (first | rfl | (simp only [Option.getD_some, Option.getD_none, List.length_map]; omega))); (focus (first | rfl | (simp only [Option.getD_some, Option.getD_none, List.length_map]; omega))); (focus omega); (focus omega); (focus (first | with_reducible rfl | assumption | (simp; done)))) | (refine s_sliceM (r := b.drop j) (j) (b.length) ?_ ?_ ?_ ?_ ?_ (h := ?_); (focus (first | rfl | (simp only [Option.getD_some, Option.getD_none, List.length_map]; omega))); (focus (first | rfl | (simp only [Option.getD_some, Option.getD_none, List.length_map]; omega))); (focus omega); (focus omega); (focus (first | with_reducible rfl | assumption | (simp; done)))) | (refine go_ ?_; ((repeat' first | exact True.intro | refine Two.mk ?_ ?_); all_goals intros)) | fail "")
        refine r_for (fun x : Nat × List UInt8 × List DField => ⟨[(1, .lit (.string (strB x.2.1))), (2, .ptr 0 0 0 0), (7, .lit (.int .i64 need)), (10, .own 1)], [(0, some (.box 24 (encTable t))), (1, some (.row 113 2 (x.2.2.map encField)))], 2, Try.f16.ntmps⟩)
          (fun x => (deRun t need x.1 x.2.1 x.2.2 = R ∧ x.2.1.length ≤ x.1 ∧ x.2.1.length ≤ b.length) ∧ x.2.2.length ≤ 8 ∧ ∀ f ∈ x.2.2, wfField f) (fun x => x.1) (b.length, b.drop j, []) ⟨⟨hR, by dsimp only; omega, by dsimp only; omega⟩, by simp, fun f hf => by cases hf⟩ ((less_own (n := 1) (t := 10) 113 2 rfl rfl rfl).trans less_to) ?_
        clear hR h1 g1 hdl et
        rintro ⟨n, s, out⟩ ⟨⟨hrun, hn, hsb⟩, ho, hwf⟩
        dsimp only at hrun hn hsb ho hwf ⊢
        by_cases hs0 : s.length = 0
        · rw [deRun0 _ _ _ _ hs0] at hrun
          subst hrun
          obtain rfl := List.length_eq_zero_iff.1 hs0
          rw [deEnd0]
          have h2 := fldsFault_fn out hwf (by omega)
          by_cases hf : fldsFlt out = 0
          · rw [hf] at h2
            rw [if_neg (by omega)]
            (repeat' first | (refine s_snap (h2) (h := ?_)) | (refine p_snapO (h2) (h := ?_)) | (refine go_ ?_; ((repeat' first | exact True.intro | refine Two.mk ?_ ?_); all_goals intros)) | fail "")
            all_goals first
              | (exact endwA_)
              | skip
          · rw [if_pos hf]
            generalize fldsFlt out = e at *
            (repeat' first | (refine s_snap (h2) (h := ?_)) | (refine p_snapO (h2) (h := ?_)) | (refine go_ ?_; ((repeat' first | exact True.intro | refine Two.mk ?_ ?_); all_goals intros)) | fail "")
            all_goals first
              | (exact endwA_)
              | skip
        have hne : ¬ s = [] := fun h => hs0 (by rw [h]; rfl)
        obtain ⟨m, rfl⟩ : ∃ m, n = m + 1 := ⟨n - 1, by omega⟩
        rw [show deRun t need (m + 1) s out = _ from if_neg hs0] at hrun
        by_cases h8 : out.length = 8
        · rw [if_pos h8] at hrun
          subst hrun
          rw [deEndE _ (by decide)]
          (repeat' first | (refine go_ ?_; ((repeat' first | exact True.intro | refine Two.mk ?_ ?_); all_goals intros)) | fail "")
          all_goals first
            | (exact endwA_)
            | skip
        rw [if_neg h8] at hrun
        obtain ⟨f, k, hlw, g2, hk2⟩ := lineOf_fn t need s hw ⟨by omega, by omega⟩ hs0 (by omega)
        generalize lineF t need s = q at *
        obtain ⟨f', s2, e⟩ := q
        dsimp only at *
        by_cases he : e = 0
        · subst he
          rw [if_neg nn0'] at hrun
          obtain ⟨rfl, i, rfl, rfl, p1, p2⟩ := hk2 rfl
          clear hk2
          have hdl : (s.drop i).length = s.length - i := List.length_drop
          have et : (s.take s.length).drop i = s.drop i := by rw [List.take_length]
          have hwf2 : ∀ y ∈ out ++ [f], wfField y := fun y hy => by
            rcases List.mem_append.1 hy with h | h
            · exact hwf y h
            · rw [List.mem_singleton.1 h]; exact hlw
          (repeat' first | (refine s_call (g2) (h := ?_)) | (refine p_call (g2) (h := ?_)) | (refine s_app (r := (out ++ [f]).map encField) ?_ ?_ ?_ ?_ (h := ?_); (focus (first | with_reducible rfl | with_reducible exact List.nil_append _ | with_reducible exact (List.map_append ..).symm | (rw [take_snoc (by assumption), List.map_append]; rfl) | (rw [List.map_append]; rfl) | (simp; done))); (focus (first | exact len_none | exact len_one rfl | exact len_two rfl rfl | exact len_enc (fun _ => rfl))); (focus ((conv => lhs; rhs; whnf); simp only [List.length_map, List.length_append, List.length_cons, List.length_nil, List.length_take]; omega)); (focus (simp only [List.length_map, List.length_append, List.length_cons, List.length_nil, List.length_take]; omega))) | (refine s_app0R (r := (out ++ [f]).map encField) ?_ ?_ ?_ ?_ (h := ?_); (focus (first | with_reducible rfl | with_reducible exact List.nil_append _ | with_reducible exact (List.map_append ..).symm | (rw [take_snoc (by assumption), List.map_append]; rfl) | (rw [List.map_append]; rfl) | (simp; done))); (focus (first | exact len_none | exact len_one rfl | exact len_two rfl rfl | exact len_enc (fun _ => rfl))); (focus ((conv => lhs; rhs; whnf); simp only [List.length_map, List.length_append, List.length_cons, List.length_nil, List.length_take]; omega)); (focus (simp only [List.length_map, List.length_append, List.length_cons, List.length_nil, List.length_take]; omega))) | (refine p_app (r := (out ++ [f]).map encField) ?_ ?_ ?_ ?_ (h := ?_); (focus (first | with_reducible rfl | with_reducible exact List.nil_append _ | with_reducible exact (List.map_append ..).symm | (rw [take_snoc (by assumption), List.map_append]; rfl) | (rw [List.map_append]; rfl) | (simp; done))); (focus (first | exact len_none | exact len_one rfl | exact len_two rfl rfl | exact len_enc (fun _ => rfl))); (focus ((conv => lhs; rhs; whnf); simp only [List.length_map, List.length_append, List.length_cons, List.length_nil, List.length_take]; omega)); (focus (simp only [List.length_map, List.length_append, List.length_cons, List.length_nil, List.length_take]; omega))) | (refine p_app0R (r := (out ++ [f]).map encField) ?_ ?_ ?_ ?_ (h := ?_); (focus (first | with_reducible rfl | with_reducible exact List.nil_append _ | with_reducible exact (List.map_append ..).symm | (rw [take_snoc (by assumption), List.map_append]; rfl) | (rw [List.map_append]; rfl) | (simp; done))); (focus (first | exact len_none | exact len_one rfl | exact len_two rfl rfl | exact len_enc (fun _ => rfl))); (focus ((conv => lhs; rhs; whnf); simp only [List.length_map, List.length_append, List.length_cons, List.length_nil, List.length_take]; omega)); (focus (simp only [List.length_map, List.length_append, List.length_cons, List.length_nil, List.length_take]; omega))) | (refine s_slice (r := s.drop i) (i) (s.length) ?_ ?_ ?_ ?_ ?_ (h := ?_); (focus (first | rfl | (simp only [Option.getD_some, Option.getD_none, List.length_map]; omega))); (focus (first | rfl | (simp only [Option.getD_some, Option.getD_none, List.length_map]; omega))); (focus omega); (focus omega); (focus (first | with_reducible rfl | assumption | (simp; done)))) | (refine p_slice (r := s.drop i) (i) (s.length) ?_ ?_ ?_ ?_ ?_ (h := ?_); (focus (first | rfl | (simp only [Option.getD_some, Option.getD_none, List.length_map]; omega))); (focus (first | rfl | (simp only [Option.getD_some, Option.getD_none, List.length_map]; omega))); (focus omega); (focus omega); (focus (first | with_reducible rfl | assumption | (simp; done)))) | (refine s_slice_str (r := s.drop i) (i) (s.length) ?_ ?_ ?_ ?_ ?_ (h := ?_); (focus (first | rfl | (simp only [Option.getD_some, Option.getD_none, List.length_map]; omega))); (focus (first | rfl | (simp only [Option.getD_some, Option.getD_none, List.length_map]; omega))); (focus omega); (focus omega); (focus (first | with_reducible rfl | assumption | (simp; done)))) | (refine p_slice_str (r := s.drop i) (i) (s.length) ?_ ?_ ?_ ?_ ?_ (h := ?_); (focus (first | rfl | (simp only [Option.getD_some, Option.getD_none, List.length_map]; omega))); (focus (first | rfl | (simp only [Option.getD_some, Option.getD_none, List.length_map]; omega))); (focus omega); (focus omega); (focus (first | with_reducible rfl | assumption | (simp; done)))) | (refine s_sliceO (r := s.drop i) (i) (s.length) ?_ ?_ ?_ ?_ ?_ (h := ?_); (focus (first | rfl | (simp only [Option.getD_some, Option.getD_none, List.length_map]; omega))); (focus (first | rfl | (simp only [Option.getD_some, Option.getD_none, List.length_map]; omega))); (focus omega); (focus omega); (focus (first | with_reducible rfl | assumption | (simp; done)))) | (refine s_sliceM (r := s.drop i) (i) (s.length) ?_ ?_ ?_ ?_ ?_ (h := ?_); (focus (first | rfl | (simp only [Option.getD_some, Option.getD_none, List.length_map]; omega))); (focus (first | rfl | (simp only [Option.getD_some, Option.getD_none, List.length_map]; omega))); (focus omega); (focus omega); (focus (first | with_reducible rfl | assumption | (simp; done)))) | (refine go_ ?_; ((repeat' first | exact True.intro | refine Two.mk ?_ ?_); all_goals intros)) | fail "")
          all_goals first
            | (refine ⟨(m, s.drop i, out ++ [f]), ?_, ?_, ?_⟩; rotate_left 2; (exact lessA_); (focus (dsimp only; omega)); (focus (exact ⟨⟨hrun, by dsimp only; omega, by dsimp only; omega⟩, by simp; omega, hwf2⟩)))
            | skip
        · rw [if_pos he] at hrun
          subst hrun
          rw [deEndE _ he]
          clear hk2
          (repeat' first | (refine s_call (g2) (h := ?_)) | (refine p_call (g2) (h := ?_)) | (refine go_ ?_; ((repeat' first | exact True.intro | refine Two.mk ?_ ?_); all_goals intros)) | fail "")
          all_goals first
            | (exact endwA_)
            | skip
    · rw [if_pos he]
      dsimp only
      rw [if_pos he]
      clear hk
      refine fn_of_run (by kernel_rfl) Try.func16 rfl (by kernel_rfl) ?_
      (repeat' first | (refine s_call (h1) (h := ?_)) | (refine p_call (h1) (h := ?_)) | (refine s_call (g1) (h := ?_)) | (refine p_call (g1) (h := ?_)) | (refine go_ ?_; ((repeat' first | exact True.intro | refine Two.mk ?_ ?_); all_goals intros)) | fail "")
      all_goals first
        | (exact endwA_)
        | skip
  · rw [h0] at h1 ⊢
    rw [if_pos (by decide)]
    refine fn_of_run (by kernel_rfl) Try.func16 rfl (by kernel_rfl) ?_
    (repeat' first | (refine s_call (h1) (h := ?_)) | (refine p_call (h1) (h := ?_)) | (refine go_ ?_; ((repeat' first | exact True.intro | refine Two.mk ?_ ?_); all_goals intros)) | fail "")
    all_goals first
      | (exact endwA_)
      | skip
theorem deRun_len {t : DTable} {need : Int} : ∀ {n : Nat} {s : List UInt8} {out : List DField}, out.length ≤ 8 → (deRun t need n s out).1.length ≤ 8
  | 0, _, _, h => h
  | n + 1, s, out, h => by
    unfold deRun
    split
    · exact h
    · split
      · simp
      · split
        · simp
        · exact deRun_len (by simp; omega)
theorem deR_len (t : DTable) (b : List UInt8) : (deR t b).1.length ≤ 8 := by
  unfold deR
  split
  · simp
  · split
    · simp
    · split
      · simp
      · unfold deEnd
        split
        · simp
        · split
          · simp
          · exact deRun_len (by simp)
end Go.Proofs.Ythpophgcmgdpjaa
