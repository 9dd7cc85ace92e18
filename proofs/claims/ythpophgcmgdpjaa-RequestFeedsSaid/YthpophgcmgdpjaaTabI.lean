/-
  table.Insert and the reference's: what each answers. No condition.
-/
import Derived.Test.YthpophgcmgdpjaaGo
import Derived.Test.YthpophgcmgdpjaaTabR
set_option linter.unusedVariables false
set_option linter.unusedSimpArgs false
set_option linter.unusedVariables false
namespace Go.Proofs.Ythpophgcmgdpjaa
set_option maxRecDepth 100000
set_option maxHeartbeats 2000000
attribute [local irreducible] Run RunL QStep GStep Fn Less PL FnM

theorem fitL_snoc : ∀ (l : List DField) (f : DField) (room : Int), (fLen f : Int) ≤ room → fitL room (l ++ [f]) = fitL (room - fLen f) l ++ [f]
  | [], f, room, h => by
    have e : fSum [f] = fLen f := by simp [fSum]
    simp only [List.nil_append, fitL]
    rw [if_pos (by rw [e]; omega)]
  | g :: l, f, room, h => by
    simp only [List.cons_append]
    unfold fitL
    have e : fSum (g :: (l ++ [f])) = fSum (g :: l) + fLen f := by rw [← List.cons_append, fSum_app]; simp [fSum]
    rw [e, fitL_snoc l f room h]
    by_cases hc : (fSum (g :: l) : Int) ≤ room - fLen f
    · rw [if_pos hc, if_pos (by omega)]; rfl
    · rw [if_neg hc, if_neg (by omega)]
def tInsE (t : DTable) (f : DField) : Int := if ¬ fldOk f then 3 else if t.Room < fLen f then 1 else if t.Put = 4611686018427387903 then 8 else 0
/-- P14.3 -/
noncomputable def tabIns (t : DTable) (f : DField) : DTable × Int := if tabFlt t ≠ 0 then (⟨0, 0, []⟩, tabFlt t) else if tInsE t f ≠ 0 then (⟨0, 0, []⟩, tInsE t f) else (⟨t.Room, t.Put + 1, fitL t.Room (t.Rows ++ [f])⟩, 0)
theorem insert_fn (t : DTable) (f : DField) (hw : wfTable t) (hf : wfField f) : Fn Try.prog 70 [.agg (encTable t), .agg (encField f)] (.tup [.agg (encTable (tabIns t f).1), .lit (.int .i64 (tabIns t f).2)]) := by
  have h1 := tabCheck_fn t hw
  unfold tabIns
  rcases tabFlt_cases t with ⟨h0, ho⟩ | ⟨h0, ho⟩
  · rw [h0] at h1 ⊢
    rw [if_neg (by omega)]
    have hh := ho.1
    by_cases c1 : fldOk f
    · by_cases c2 : t.Room < fLen f
      · rw [show tInsE t f = 1 by simp [tInsE, c1, c2], if_pos (by omega)]
        refine fn_of_run (by kernel_rfl) Try.func70 rfl (by kernel_rfl) ?_
        (repeat' first | (refine s_call (h1) (h := ?_)) | (refine p_call (h1) (h := ?_)) | (refine s_dec (field_fn f hf) (ht := ?_) (hff := ?_) <;> intro _ <;> try (exfalso; omega)) | (refine p_dec (field_fn f hf) (ht := ?_) (hff := ?_) <;> intro _ <;> try (exfalso; omega)) | (refine s_call (size_fn f hf) (h := ?_)) | (refine p_call (size_fn f hf) (h := ?_)) | (refine go_ ?_; ((repeat' first | exact True.intro | refine Two.mk ?_ ?_); all_goals intros)) | fail "")
        all_goals first
          | (exfalso; contradiction)
          | (exact endwA_)
      · by_cases c3 : t.Put = 4611686018427387903
        · rw [show tInsE t f = 8 by simp [tInsE, c1, c2, c3], if_pos (by omega)]
          refine fn_of_run (by kernel_rfl) Try.func70 rfl (by kernel_rfl) ?_
          (repeat' first | (refine s_call (h1) (h := ?_)) | (refine p_call (h1) (h := ?_)) | (refine s_dec (field_fn f hf) (ht := ?_) (hff := ?_) <;> intro _ <;> try (exfalso; omega)) | (refine p_dec (field_fn f hf) (ht := ?_) (hff := ?_) <;> intro _ <;> try (exfalso; omega)) | (refine s_call (size_fn f hf) (h := ?_)) | (refine p_call (size_fn f hf) (h := ?_)) | (refine go_ ?_; ((repeat' first | exact True.intro | refine Two.mk ?_ ?_); all_goals intros)) | fail "")
          all_goals first
            | (exfalso; contradiction)
            | (exact endwA_)
        · rw [show tInsE t f = 0 by simp [tInsE, c1, c2, c3], if_neg (by omega), fitL_snoc t.Rows f t.Room (by omega)]
          have h2 := fitted_fnm t (t.Room - fLen f) hw ho.2.1 (by omega)
          have hlen := fitL_len (t.Room - fLen f) t.Rows
          have hl2 := hw.2.2.1
          refine fn_of_run (by kernel_rfl) Try.func70 rfl (by kernel_rfl) ?_
          (repeat' first | (refine s_call (h1) (h := ?_)) | (refine p_call (h1) (h := ?_)) | (refine s_dec (field_fn f hf) (ht := ?_) (hff := ?_) <;> intro _ <;> try (exfalso; omega)) | (refine p_dec (field_fn f hf) (ht := ?_) (hff := ?_) <;> intro _ <;> try (exfalso; omega)) | (refine s_call (size_fn f hf) (h := ?_)) | (refine p_call (size_fn f hf) (h := ?_)) | (refine s_callM [] (h2) (h := ?_)) | (refine s_callM0 [] (h2) (h := ?_)) | (refine p_callN (h2) (h := ?_)) | (refine s_app (r := (fitL (t.Room - fLen f) t.Rows ++ [f]).map encField) ?_ ?_ ?_ ?_ (h := ?_); (focus (first | with_reducible rfl | with_reducible exact List.nil_append _ | with_reducible exact (List.map_append ..).symm | (rw [take_snoc (by assumption), List.map_append]; rfl) | (rw [List.map_append]; rfl) | (simp; done))); (focus (first | exact len_none | exact len_one rfl | exact len_two rfl rfl | exact len_enc (fun _ => rfl))); (focus ((conv => lhs; rhs; whnf); simp only [List.length_map, List.length_append, List.length_cons, List.length_nil, List.length_take]; omega)); (focus (simp only [List.length_map, List.length_append, List.length_cons, List.length_nil, List.length_take]; omega))) | (refine s_app0R (r := (fitL (t.Room - fLen f) t.Rows ++ [f]).map encField) ?_ ?_ ?_ ?_ (h := ?_); (focus (first | with_reducible rfl | with_reducible exact List.nil_append _ | with_reducible exact (List.map_append ..).symm | (rw [take_snoc (by assumption), List.map_append]; rfl) | (rw [List.map_append]; rfl) | (simp; done))); (focus (first | exact len_none | exact len_one rfl | exact len_two rfl rfl | exact len_enc (fun _ => rfl))); (focus ((conv => lhs; rhs; whnf); simp only [List.length_map, List.length_append, List.length_cons, List.length_nil, List.length_take]; omega)); (focus (simp only [List.length_map, List.length_append, List.length_cons, List.length_nil, List.length_take]; omega))) | (refine p_app (r := (fitL (t.Room - fLen f) t.Rows ++ [f]).map encField) ?_ ?_ ?_ ?_ (h := ?_); (focus (first | with_reducible rfl | with_reducible exact List.nil_append _ | with_reducible exact (List.map_append ..).symm | (rw [take_snoc (by assumption), List.map_append]; rfl) | (rw [List.map_append]; rfl) | (simp; done))); (focus (first | exact len_none | exact len_one rfl | exact len_two rfl rfl | exact len_enc (fun _ => rfl))); (focus ((conv => lhs; rhs; whnf); simp only [List.length_map, List.length_append, List.length_cons, List.length_nil, List.length_take]; omega)); (focus (simp only [List.length_map, List.length_append, List.length_cons, List.length_nil, List.length_take]; omega))) | (refine p_app0R (r := (fitL (t.Room - fLen f) t.Rows ++ [f]).map encField) ?_ ?_ ?_ ?_ (h := ?_); (focus (first | with_reducible rfl | with_reducible exact List.nil_append _ | with_reducible exact (List.map_append ..).symm | (rw [take_snoc (by assumption), List.map_append]; rfl) | (rw [List.map_append]; rfl) | (simp; done))); (focus (first | exact len_none | exact len_one rfl | exact len_two rfl rfl | exact len_enc (fun _ => rfl))); (focus ((conv => lhs; rhs; whnf); simp only [List.length_map, List.length_append, List.length_cons, List.length_nil, List.length_take]; omega)); (focus (simp only [List.length_map, List.length_append, List.length_cons, List.length_nil, List.length_take]; omega))) | (refine go_ ?_; ((repeat' first | exact True.intro | refine Two.mk ?_ ?_); all_goals intros)) | fail "")
          all_goals first
            | (exfalso; contradiction)
            | (exact endwA_)
    · rw [show tInsE t f = 3 by simp [tInsE, c1], if_pos (by omega)]
      refine fn_of_run (by kernel_rfl) Try.func70 rfl (by kernel_rfl) ?_
      (repeat' first | (refine s_call (h1) (h := ?_)) | (refine p_call (h1) (h := ?_)) | (refine s_dec (field_fn f hf) (ht := ?_) (hff := ?_) <;> intro _ <;> try (exfalso; omega)) | (refine p_dec (field_fn f hf) (ht := ?_) (hff := ?_) <;> intro _ <;> try (exfalso; omega)) | (refine s_call (size_fn f hf) (h := ?_)) | (refine p_call (size_fn f hf) (h := ?_)) | (refine go_ ?_; ((repeat' first | exact True.intro | refine Two.mk ?_ ?_); all_goals intros)) | fail "")
      all_goals first
        | (exfalso; contradiction)
        | (exact endwA_)
  · rw [h0] at h1 ⊢
    rw [if_pos (by omega)]
    refine fn_of_run (by kernel_rfl) Try.func70 rfl (by kernel_rfl) ?_
    (repeat' first | (refine s_call (h1) (h := ?_)) | (refine p_call (h1) (h := ?_)) | (refine go_ ?_; ((repeat' first | exact True.intro | refine Two.mk ?_ ?_); all_goals intros)) | fail "")
    all_goals (exact endwA_)
theorem insertRef_fn (t : DTable) (f : DField) (hw : wfTable t) (hf : wfField f) : Fn Try.prog 77 [.agg (encTable t), .agg (encField f)] (.tup [.agg (encTable (tabIns t f).1), .lit (.int .i64 (tabIns t f).2)]) := by
  have h1 := tabFault_fn t hw
  have hwt := weight_fn [f] (fun y hy => by rw [List.mem_singleton.1 hy]; exact hf) (by simp)
  unfold wfField at hf
  have hf' : wfField f := hf
  have hfs : fSum [f] = fLen f := by simp [fSum]
  rw [wSum_all (by rw [hfs]; unfold fLen; omega), hfs] at hwt
  unfold tabIns
  rcases tabFlt_cases t with ⟨h0, ho⟩ | ⟨h0, ho⟩
  · rw [h0] at h1 ⊢
    rw [if_neg (by omega)]
    have hh := ho.1
    by_cases c1 : fldOk f
    · by_cases c2 : t.Room < fLen f
      · rw [show tInsE t f = 1 by simp [tInsE, c1, c2], if_pos (by omega)]
        refine fn_of_run (by kernel_rfl) Try.func77 rfl (by kernel_rfl) ?_
        (repeat' first | (refine s_call (h1) (h := ?_)) | (refine p_call (h1) (h := ?_)) | (refine s_dec (isField_fn f hf') (ht := ?_) (hff := ?_) <;> intro _ <;> try (exfalso; omega)) | (refine p_dec (isField_fn f hf') (ht := ?_) (hff := ?_) <;> intro _ <;> try (exfalso; omega)) | (refine s_call (hwt) (h := ?_)) | (refine p_call (hwt) (h := ?_)) | (refine go_ ?_; ((repeat' first | exact True.intro | refine Two.mk ?_ ?_); all_goals intros)) | fail "")
        all_goals first
          | (exfalso; contradiction)
          | (exact endwA_)
      · by_cases c3 : t.Put = 4611686018427387903
        · rw [show tInsE t f = 8 by simp [tInsE, c1, c2, c3], if_pos (by omega)]
          refine fn_of_run (by kernel_rfl) Try.func77 rfl (by kernel_rfl) ?_
          (repeat' first | (refine s_call (h1) (h := ?_)) | (refine p_call (h1) (h := ?_)) | (refine s_dec (isField_fn f hf') (ht := ?_) (hff := ?_) <;> intro _ <;> try (exfalso; omega)) | (refine p_dec (isField_fn f hf') (ht := ?_) (hff := ?_) <;> intro _ <;> try (exfalso; omega)) | (refine s_call (hwt) (h := ?_)) | (refine p_call (hwt) (h := ?_)) | (refine go_ ?_; ((repeat' first | exact True.intro | refine Two.mk ?_ ?_); all_goals intros)) | fail "")
          all_goals first
            | (exfalso; contradiction)
            | (exact endwA_)
        · rw [show tInsE t f = 0 by simp [tInsE, c1, c2, c3], if_neg (by omega)]
          have hok : ∀ g ∈ t.Rows ++ [f], fldOk g := fun g hg => by
            rcases List.mem_append.1 hg with hg | hg
            · exact ho.2.1 g hg
            · rw [List.mem_singleton.1 hg]; exact c1
          have hl2 := hw.2.2.1
          have h2 := youngest_fn (t.Rows ++ [f]) t.Room (fun y hy => by
            rcases List.mem_append.1 hy with hy | hy
            · exact hw.2.2.2 y hy
            · rw [List.mem_singleton.1 hy]; exact hf') (by simp only [List.length_append, List.length_cons, List.length_nil]; omega) hok (by omega) (by omega)
          refine fn_of_run (by kernel_rfl) Try.func77 rfl (by kernel_rfl) ?_
          (repeat' first | (refine s_call (h1) (h := ?_)) | (refine p_call (h1) (h := ?_)) | (refine s_dec (isField_fn f hf') (ht := ?_) (hff := ?_) <;> intro _ <;> try (exfalso; omega)) | (refine p_dec (isField_fn f hf') (ht := ?_) (hff := ?_) <;> intro _ <;> try (exfalso; omega)) | (refine s_call (hwt) (h := ?_)) | (refine p_call (hwt) (h := ?_)) | (refine s_call (h2) (h := ?_)) | (refine p_call (h2) (h := ?_)) | (refine s_app (r := t.Rows.map encField) ?_ ?_ ?_ ?_ (h := ?_); (focus (first | with_reducible rfl | with_reducible exact List.nil_append _ | with_reducible exact (List.map_append ..).symm | (rw [take_snoc (by assumption), List.map_append]; rfl) | (rw [List.map_append]; rfl) | (simp; done))); (focus (first | exact len_none | exact len_one rfl | exact len_two rfl rfl | exact len_enc (fun _ => rfl))); (focus ((conv => lhs; rhs; whnf); simp only [List.length_map, List.length_append, List.length_cons, List.length_nil, List.length_take]; omega)); (focus (simp only [List.length_map, List.length_append, List.length_cons, List.length_nil, List.length_take]; omega))) | (refine s_app0R (r := t.Rows.map encField) ?_ ?_ ?_ ?_ (h := ?_); (focus (first | with_reducible rfl | with_reducible exact List.nil_append _ | with_reducible exact (List.map_append ..).symm | (rw [take_snoc (by assumption), List.map_append]; rfl) | (rw [List.map_append]; rfl) | (simp; done))); (focus (first | exact len_none | exact len_one rfl | exact len_two rfl rfl | exact len_enc (fun _ => rfl))); (focus ((conv => lhs; rhs; whnf); simp only [List.length_map, List.length_append, List.length_cons, List.length_nil, List.length_take]; omega)); (focus (simp only [List.length_map, List.length_append, List.length_cons, List.length_nil, List.length_take]; omega))) | (refine p_app (r := t.Rows.map encField) ?_ ?_ ?_ ?_ (h := ?_); (focus (first | with_reducible rfl | with_reducible exact List.nil_append _ | with_reducible exact (List.map_append ..).symm | (rw [take_snoc (by assumption), List.map_append]; rfl) | (rw [List.map_append]; rfl) | (simp; done))); (focus (first | exact len_none | exact len_one rfl | exact len_two rfl rfl | exact len_enc (fun _ => rfl))); (focus ((conv => lhs; rhs; whnf); simp only [List.length_map, List.length_append, List.length_cons, List.length_nil, List.length_take]; omega)); (focus (simp only [List.length_map, List.length_append, List.length_cons, List.length_nil, List.length_take]; omega))) | (refine p_app0R (r := t.Rows.map encField) ?_ ?_ ?_ ?_ (h := ?_); (focus (first | with_reducible rfl | with_reducible exact List.nil_append _ | with_reducible exact (List.map_append ..).symm | (rw [take_snoc (by assumption), List.map_append]; rfl) | (rw [List.map_append]; rfl) | (simp; done))); (focus (first | exact len_none | exact len_one rfl | exact len_two rfl rfl | exact len_enc (fun _ => rfl))); (focus ((conv => lhs; rhs; whnf); simp only [List.length_map, List.length_append, List.length_cons, List.length_nil, List.length_take]; omega)); (focus (simp only [List.length_map, List.length_append, List.length_cons, List.length_nil, List.length_take]; omega))) | (refine s_appro (r := (t.Rows ++ [f]).map encField) ?_ ?_ ?_ ?_ (h := ?_); (focus (first | with_reducible rfl | with_reducible exact List.nil_append _ | with_reducible exact (List.map_append ..).symm | (rw [take_snoc (by assumption), List.map_append]; rfl) | (rw [List.map_append]; rfl) | (simp; done))); (focus (first | exact len_none | exact len_one rfl | exact len_two rfl rfl | exact len_enc (fun _ => rfl))); (focus ((conv => lhs; rhs; whnf); simp only [List.length_map, List.length_append, List.length_cons, List.length_nil, List.length_take]; omega)); (focus (simp only [List.length_map, List.length_append, List.length_cons, List.length_nil, List.length_take]; omega))) | (refine s_app0roR (r := (t.Rows ++ [f]).map encField) ?_ ?_ ?_ ?_ (h := ?_); (focus (first | with_reducible rfl | with_reducible exact List.nil_append _ | with_reducible exact (List.map_append ..).symm | (rw [take_snoc (by assumption), List.map_append]; rfl) | (rw [List.map_append]; rfl) | (simp; done))); (focus (first | exact len_none | exact len_one rfl | exact len_two rfl rfl | exact len_enc (fun _ => rfl))); (focus ((conv => lhs; rhs; whnf); simp only [List.length_map, List.length_append, List.length_cons, List.length_nil, List.length_take]; omega)); (focus (simp only [List.length_map, List.length_append, List.length_cons, List.length_nil, List.length_take]; omega))) | (refine p_appro (r := (t.Rows ++ [f]).map encField) ?_ ?_ ?_ ?_ (h := ?_); (focus (first | with_reducible rfl | with_reducible exact List.nil_append _ | with_reducible exact (List.map_append ..).symm | (rw [take_snoc (by assumption), List.map_append]; rfl) | (rw [List.map_append]; rfl) | (simp; done))); (focus (first | exact len_none | exact len_one rfl | exact len_two rfl rfl | exact len_enc (fun _ => rfl))); (focus ((conv => lhs; rhs; whnf); simp only [List.length_map, List.length_append, List.length_cons, List.length_nil, List.length_take]; omega)); (focus (simp only [List.length_map, List.length_append, List.length_cons, List.length_nil, List.length_take]; omega))) | (refine p_app0roR (r := (t.Rows ++ [f]).map encField) ?_ ?_ ?_ ?_ (h := ?_); (focus (first | with_reducible rfl | with_reducible exact List.nil_append _ | with_reducible exact (List.map_append ..).symm | (rw [take_snoc (by assumption), List.map_append]; rfl) | (rw [List.map_append]; rfl) | (simp; done))); (focus (first | exact len_none | exact len_one rfl | exact len_two rfl rfl | exact len_enc (fun _ => rfl))); (focus ((conv => lhs; rhs; whnf); simp only [List.length_map, List.length_append, List.length_cons, List.length_nil, List.length_take]; omega)); (focus (simp only [List.length_map, List.length_append, List.length_cons, List.length_nil, List.length_take]; omega))) | (refine go_ ?_; ((repeat' first | exact True.intro | refine Two.mk ?_ ?_); all_goals intros)) | fail "")
          all_goals first
            | (exfalso; contradiction)
            | (exact endwA_)
    · rw [show tInsE t f = 3 by simp [tInsE, c1], if_pos (by omega)]
      refine fn_of_run (by kernel_rfl) Try.func77 rfl (by kernel_rfl) ?_
      (repeat' first | (refine s_call (h1) (h := ?_)) | (refine p_call (h1) (h := ?_)) | (refine s_dec (isField_fn f hf') (ht := ?_) (hff := ?_) <;> intro _ <;> try (exfalso; omega)) | (refine p_dec (isField_fn f hf') (ht := ?_) (hff := ?_) <;> intro _ <;> try (exfalso; omega)) | (refine s_call (hwt) (h := ?_)) | (refine p_call (hwt) (h := ?_)) | (refine go_ ?_; ((repeat' first | exact True.intro | refine Two.mk ?_ ?_); all_goals intros)) | fail "")
      all_goals first
        | (exfalso; contradiction)
        | (exact endwA_)
  · rw [h0] at h1 ⊢
    rw [if_pos (by omega)]
    refine fn_of_run (by kernel_rfl) Try.func77 rfl (by kernel_rfl) ?_
    (repeat' first | (refine s_call (h1) (h := ?_)) | (refine p_call (h1) (h := ?_)) | (refine go_ ?_; ((repeat' first | exact True.intro | refine Two.mk ?_ ?_); all_goals intros)) | fail "")
    all_goals (exact endwA_)
end Go.Proofs.Ythpophgcmgdpjaa
