/-
  request.Feed: the plain part; fresh, next and frame. No condition.
-/
import Derived.Test.YthpophgcmgdpjaaGo
import Derived.Test.YthpophgcmgdpjaaVarD
import Derived.Test.YthpophgcmgdpjaaFldDe
import Derived.Test.YthpophgcmgdpjaaReqC
set_option linter.unusedVariables false
set_option linter.unusedSimpArgs false
set_option linter.unusedVariables false
namespace Go.Proofs.Ythpophgcmgdpjaa
set_option maxRecDepth 100000
attribute [local irreducible] Run RunL QStep GStep Fn Less PL FnM

theorem reader_fnm (r : DReader) (hw : wfReader r) : FnM Try.prog 82 [.agg (encReader r)] [] 0 (.agg [.own 0, .ro (r.Fields.map encField), .lit (.bool r.Begun), .own 1, .lit (.bool r.Ended)]) [(0, some (.row 5 1 (r.Held.map encB))), (1, some (.row 5 1 (r.Body.map encB)))] 2 := by
  obtain ⟨w1, w2, w3, w4⟩ := hw
  refine fnm_of_run (by kernel_rfl) Try.func82 rfl (by kernel_rfl) (by rfl) ?_
  (repeat' first | (refine s_app (r := r.Held.map encB) ?_ ?_ ?_ ?_ (h := ?_); (focus (first | with_reducible rfl | with_reducible exact List.nil_append _ | with_reducible exact (List.map_append ..).symm | (rw [take_snoc (by assumption), List.map_append]; rfl) | (rw [List.map_append]; rfl) | (simp; done))); (focus (first | exact len_none | exact len_one rfl | exact len_two rfl rfl | exact len_enc (fun _ => rfl))); (focus ((conv => lhs; rhs; whnf); simp only [List.length_map, List.length_append, List.length_cons, List.length_nil, List.length_take]; omega)); (focus (simp only [List.length_map, List.length_append, List.length_cons, List.length_nil, List.length_take]; omega))) | (refine s_app0R (r := r.Held.map encB) ?_ ?_ ?_ ?_ (h := ?_); (focus (first | with_reducible rfl | with_reducible exact List.nil_append _ | with_reducible exact (List.map_append ..).symm | (rw [take_snoc (by assumption), List.map_append]; rfl) | (rw [List.map_append]; rfl) | (simp; done))); (focus (first | exact len_none | exact len_one rfl | exact len_two rfl rfl | exact len_enc (fun _ => rfl))); (focus ((conv => lhs; rhs; whnf); simp only [List.length_map, List.length_append, List.length_cons, List.length_nil, List.length_take]; omega)); (focus (simp only [List.length_map, List.length_append, List.length_cons, List.length_nil, List.length_take]; omega))) | (refine p_app (r := r.Held.map encB) ?_ ?_ ?_ ?_ (h := ?_); (focus (first | with_reducible rfl | with_reducible exact List.nil_append _ | with_reducible exact (List.map_append ..).symm | (rw [take_snoc (by assumption), List.map_append]; rfl) | (rw [List.map_append]; rfl) | (simp; done))); (focus (first | exact len_none | exact len_one rfl | exact len_two rfl rfl | exact len_enc (fun _ => rfl))); (focus ((conv => lhs; rhs; whnf); simp only [List.length_map, List.length_append, List.length_cons, List.length_nil, List.length_take]; omega)); (focus (simp only [List.length_map, List.length_append, List.length_cons, List.length_nil, List.length_take]; omega))) | (refine p_app0R (r := r.Held.map encB) ?_ ?_ ?_ ?_ (h := ?_); (focus (first | with_reducible rfl | with_reducible exact List.nil_append _ | with_reducible exact (List.map_append ..).symm | (rw [take_snoc (by assumption), List.map_append]; rfl) | (rw [List.map_append]; rfl) | (simp; done))); (focus (first | exact len_none | exact len_one rfl | exact len_two rfl rfl | exact len_enc (fun _ => rfl))); (focus ((conv => lhs; rhs; whnf); simp only [List.length_map, List.length_append, List.length_cons, List.length_nil, List.length_take]; omega)); (focus (simp only [List.length_map, List.length_append, List.length_cons, List.length_nil, List.length_take]; omega))) | (refine s_app (r := r.Body.map encB) ?_ ?_ ?_ ?_ (h := ?_); (focus (first | with_reducible rfl | with_reducible exact List.nil_append _ | with_reducible exact (List.map_append ..).symm | (rw [take_snoc (by assumption), List.map_append]; rfl) | (rw [List.map_append]; rfl) | (simp; done))); (focus (first | exact len_none | exact len_one rfl | exact len_two rfl rfl | exact len_enc (fun _ => rfl))); (focus ((conv => lhs; rhs; whnf); simp only [List.length_map, List.length_append, List.length_cons, List.length_nil, List.length_take]; omega)); (focus (simp only [List.length_map, List.length_append, List.length_cons, List.length_nil, List.length_take]; omega))) | (refine s_app0R (r := r.Body.map encB) ?_ ?_ ?_ ?_ (h := ?_); (focus (first | with_reducible rfl | with_reducible exact List.nil_append _ | with_reducible exact (List.map_append ..).symm | (rw [take_snoc (by assumption), List.map_append]; rfl) | (rw [List.map_append]; rfl) | (simp; done))); (focus (first | exact len_none | exact len_one rfl | exact len_two rfl rfl | exact len_enc (fun _ => rfl))); (focus ((conv => lhs; rhs; whnf); simp only [List.length_map, List.length_append, List.length_cons, List.length_nil, List.length_take]; omega)); (focus (simp only [List.length_map, List.length_append, List.length_cons, List.length_nil, List.length_take]; omega))) | (refine p_app (r := r.Body.map encB) ?_ ?_ ?_ ?_ (h := ?_); (focus (first | with_reducible rfl | with_reducible exact List.nil_append _ | with_reducible exact (List.map_append ..).symm | (rw [take_snoc (by assumption), List.map_append]; rfl) | (rw [List.map_append]; rfl) | (simp; done))); (focus (first | exact len_none | exact len_one rfl | exact len_two rfl rfl | exact len_enc (fun _ => rfl))); (focus ((conv => lhs; rhs; whnf); simp only [List.length_map, List.length_append, List.length_cons, List.length_nil, List.length_take]; omega)); (focus (simp only [List.length_map, List.length_append, List.length_cons, List.length_nil, List.length_take]; omega))) | (refine p_app0R (r := r.Body.map encB) ?_ ?_ ?_ ?_ (h := ?_); (focus (first | with_reducible rfl | with_reducible exact List.nil_append _ | with_reducible exact (List.map_append ..).symm | (rw [take_snoc (by assumption), List.map_append]; rfl) | (rw [List.map_append]; rfl) | (simp; done))); (focus (first | exact len_none | exact len_one rfl | exact len_two rfl rfl | exact len_enc (fun _ => rfl))); (focus ((conv => lhs; rhs; whnf); simp only [List.length_map, List.length_append, List.length_cons, List.length_nil, List.length_take]; omega)); (focus (simp only [List.length_map, List.length_append, List.length_cons, List.length_nil, List.length_take]; omega))) | (refine s_appro (r := r.Fields.map encField) ?_ ?_ ?_ ?_ (h := ?_); (focus (first | with_reducible rfl | with_reducible exact List.nil_append _ | with_reducible exact (List.map_append ..).symm | (rw [take_snoc (by assumption), List.map_append]; rfl) | (rw [List.map_append]; rfl) | (simp; done))); (focus (first | exact len_none | exact len_one rfl | exact len_two rfl rfl | exact len_enc (fun _ => rfl))); (focus ((conv => lhs; rhs; whnf); simp only [List.length_map, List.length_append, List.length_cons, List.length_nil, List.length_take]; omega)); (focus (simp only [List.length_map, List.length_append, List.length_cons, List.length_nil, List.length_take]; omega))) | (refine s_app0roR (r := r.Fields.map encField) ?_ ?_ ?_ ?_ (h := ?_); (focus (first | with_reducible rfl | with_reducible exact List.nil_append _ | with_reducible exact (List.map_append ..).symm | (rw [take_snoc (by assumption), List.map_append]; rfl) | (rw [List.map_append]; rfl) | (simp; done))); (focus (first | exact len_none | exact len_one rfl | exact len_two rfl rfl | exact len_enc (fun _ => rfl))); (focus ((conv => lhs; rhs; whnf); simp only [List.length_map, List.length_append, List.length_cons, List.length_nil, List.length_take]; omega)); (focus (simp only [List.length_map, List.length_append, List.length_cons, List.length_nil, List.length_take]; omega))) | (refine p_appro (r := r.Fields.map encField) ?_ ?_ ?_ ?_ (h := ?_); (focus (first | with_reducible rfl | with_reducible exact List.nil_append _ | with_reducible exact (List.map_append ..).symm | (rw [take_snoc (by assumption), List.map_append]; rfl) | (rw [List.map_append]; rfl) | (simp; done))); (focus (first | exact len_none | exact len_one rfl | exact len_two rfl rfl | exact len_enc (fun _ => rfl))); (focus ((conv => lhs; rhs; whnf); simp only [List.length_map, List.length_append, List.length_cons, List.length_nil, List.length_take]; omega)); (focus (simp only [List.length_map, List.length_append, List.length_cons, List.length_nil, List.length_take]; omega))) | (refine p_app0roR (r := r.Fields.map encField) ?_ ?_ ?_ ?_ (h := ?_); (focus (first | with_reducible rfl | with_reducible exact List.nil_append _ | with_reducible exact (List.map_append ..).symm | (rw [take_snoc (by assumption), List.map_append]; rfl) | (rw [List.map_append]; rfl) | (simp; done))); (focus (first | exact len_none | exact len_one rfl | exact len_two rfl rfl | exact len_enc (fun _ => rfl))); (focus ((conv => lhs; rhs; whnf); simp only [List.length_map, List.length_append, List.length_cons, List.length_nil, List.length_take]; omega)); (focus (simp only [List.length_map, List.length_append, List.length_cons, List.length_nil, List.length_take]; omega))) | (refine go_ ?_; ((repeat' first | exact True.intro | refine Two.mk ?_ ?_); all_goals intros)) | fail "")
  all_goals first
    | (exact endmA_)
    | skip
theorem reader_fn (r : DReader) (hw : wfReader r) : Fn Try.prog 82 [.agg (encReader r)] (.agg (encReader r)) := by
  obtain ⟨w1, w2, w3, w4⟩ := hw
  refine fn_of_run (by kernel_rfl) Try.func82 rfl (by kernel_rfl) ?_
  (repeat' first | (refine s_appro (r := r.Held.map encB) ?_ ?_ ?_ ?_ (h := ?_); (focus (first | with_reducible rfl | with_reducible exact List.nil_append _ | with_reducible exact (List.map_append ..).symm | (rw [take_snoc (by assumption), List.map_append]; rfl) | (rw [List.map_append]; rfl) | (simp; done))); (focus (first | exact len_none | exact len_one rfl | exact len_two rfl rfl | exact len_enc (fun _ => rfl))); (focus ((conv => lhs; rhs; whnf); simp only [List.length_map, List.length_append, List.length_cons, List.length_nil, List.length_take]; omega)); (focus (simp only [List.length_map, List.length_append, List.length_cons, List.length_nil, List.length_take]; omega))) | (refine s_app0roR (r := r.Held.map encB) ?_ ?_ ?_ ?_ (h := ?_); (focus (first | with_reducible rfl | with_reducible exact List.nil_append _ | with_reducible exact (List.map_append ..).symm | (rw [take_snoc (by assumption), List.map_append]; rfl) | (rw [List.map_append]; rfl) | (simp; done))); (focus (first | exact len_none | exact len_one rfl | exact len_two rfl rfl | exact len_enc (fun _ => rfl))); (focus ((conv => lhs; rhs; whnf); simp only [List.length_map, List.length_append, List.length_cons, List.length_nil, List.length_take]; omega)); (focus (simp only [List.length_map, List.length_append, List.length_cons, List.length_nil, List.length_take]; omega))) | (refine p_appro (r := r.Held.map encB) ?_ ?_ ?_ ?_ (h := ?_); (focus (first | with_reducible rfl | with_reducible exact List.nil_append _ | with_reducible exact (List.map_append ..).symm | (rw [take_snoc (by assumption), List.map_append]; rfl) | (rw [List.map_append]; rfl) | (simp; done))); (focus (first | exact len_none | exact len_one rfl | exact len_two rfl rfl | exact len_enc (fun _ => rfl))); (focus ((conv => lhs; rhs; whnf); simp only [List.length_map, List.length_append, List.length_cons, List.length_nil, List.length_take]; omega)); (focus (simp only [List.length_map, List.length_append, List.length_cons, List.length_nil, List.length_take]; omega))) | (refine p_app0roR (r := r.Held.map encB) ?_ ?_ ?_ ?_ (h := ?_); (focus (first | with_reducible rfl | with_reducible exact List.nil_append _ | with_reducible exact (List.map_append ..).symm | (rw [take_snoc (by assumption), List.map_append]; rfl) | (rw [List.map_append]; rfl) | (simp; done))); (focus (first | exact len_none | exact len_one rfl | exact len_two rfl rfl | exact len_enc (fun _ => rfl))); (focus ((conv => lhs; rhs; whnf); simp only [List.length_map, List.length_append, List.length_cons, List.length_nil, List.length_take]; omega)); (focus (simp only [List.length_map, List.length_append, List.length_cons, List.length_nil, List.length_take]; omega))) | (refine s_appro (r := r.Body.map encB) ?_ ?_ ?_ ?_ (h := ?_); (focus (first | with_reducible rfl | with_reducible exact List.nil_append _ | with_reducible exact (List.map_append ..).symm | (rw [take_snoc (by assumption), List.map_append]; rfl) | (rw [List.map_append]; rfl) | (simp; done))); (focus (first | exact len_none | exact len_one rfl | exact len_two rfl rfl | exact len_enc (fun _ => rfl))); (focus ((conv => lhs; rhs; whnf); simp only [List.length_map, List.length_append, List.length_cons, List.length_nil, List.length_take]; omega)); (focus (simp only [List.length_map, List.length_append, List.length_cons, List.length_nil, List.length_take]; omega))) | (refine s_app0roR (r := r.Body.map encB) ?_ ?_ ?_ ?_ (h := ?_); (focus (first | with_reducible rfl | with_reducible exact List.nil_append _ | with_reducible exact (List.map_append ..).symm | (rw [take_snoc (by assumption), List.map_append]; rfl) | (rw [List.map_append]; rfl) | (simp; done))); (focus (first | exact len_none | exact len_one rfl | exact len_two rfl rfl | exact len_enc (fun _ => rfl))); (focus ((conv => lhs; rhs; whnf); simp only [List.length_map, List.length_append, List.length_cons, List.length_nil, List.length_take]; omega)); (focus (simp only [List.length_map, List.length_append, List.length_cons, List.length_nil, List.length_take]; omega))) | (refine p_appro (r := r.Body.map encB) ?_ ?_ ?_ ?_ (h := ?_); (focus (first | with_reducible rfl | with_reducible exact List.nil_append _ | with_reducible exact (List.map_append ..).symm | (rw [take_snoc (by assumption), List.map_append]; rfl) | (rw [List.map_append]; rfl) | (simp; done))); (focus (first | exact len_none | exact len_one rfl | exact len_two rfl rfl | exact len_enc (fun _ => rfl))); (focus ((conv => lhs; rhs; whnf); simp only [List.length_map, List.length_append, List.length_cons, List.length_nil, List.length_take]; omega)); (focus (simp only [List.length_map, List.length_append, List.length_cons, List.length_nil, List.length_take]; omega))) | (refine p_app0roR (r := r.Body.map encB) ?_ ?_ ?_ ?_ (h := ?_); (focus (first | with_reducible rfl | with_reducible exact List.nil_append _ | with_reducible exact (List.map_append ..).symm | (rw [take_snoc (by assumption), List.map_append]; rfl) | (rw [List.map_append]; rfl) | (simp; done))); (focus (first | exact len_none | exact len_one rfl | exact len_two rfl rfl | exact len_enc (fun _ => rfl))); (focus ((conv => lhs; rhs; whnf); simp only [List.length_map, List.length_append, List.length_cons, List.length_nil, List.length_take]; omega)); (focus (simp only [List.length_map, List.length_append, List.length_cons, List.length_nil, List.length_take]; omega))) | (refine s_appro (r := r.Fields.map encField) ?_ ?_ ?_ ?_ (h := ?_); (focus (first | with_reducible rfl | with_reducible exact List.nil_append _ | with_reducible exact (List.map_append ..).symm | (rw [take_snoc (by assumption), List.map_append]; rfl) | (rw [List.map_append]; rfl) | (simp; done))); (focus (first | exact len_none | exact len_one rfl | exact len_two rfl rfl | exact len_enc (fun _ => rfl))); (focus ((conv => lhs; rhs; whnf); simp only [List.length_map, List.length_append, List.length_cons, List.length_nil, List.length_take]; omega)); (focus (simp only [List.length_map, List.length_append, List.length_cons, List.length_nil, List.length_take]; omega))) | (refine s_app0roR (r := r.Fields.map encField) ?_ ?_ ?_ ?_ (h := ?_); (focus (first | with_reducible rfl | with_reducible exact List.nil_append _ | with_reducible exact (List.map_append ..).symm | (rw [take_snoc (by assumption), List.map_append]; rfl) | (rw [List.map_append]; rfl) | (simp; done))); (focus (first | exact len_none | exact len_one rfl | exact len_two rfl rfl | exact len_enc (fun _ => rfl))); (focus ((conv => lhs; rhs; whnf); simp only [List.length_map, List.length_append, List.length_cons, List.length_nil, List.length_take]; omega)); (focus (simp only [List.length_map, List.length_append, List.length_cons, List.length_nil, List.length_take]; omega))) | (refine p_appro (r := r.Fields.map encField) ?_ ?_ ?_ ?_ (h := ?_); (focus (first | with_reducible rfl | with_reducible exact List.nil_append _ | with_reducible exact (List.map_append ..).symm | (rw [take_snoc (by assumption), List.map_append]; rfl) | (rw [List.map_append]; rfl) | (simp; done))); (focus (first | exact len_none | exact len_one rfl | exact len_two rfl rfl | exact len_enc (fun _ => rfl))); (focus ((conv => lhs; rhs; whnf); simp only [List.length_map, List.length_append, List.length_cons, List.length_nil, List.length_take]; omega)); (focus (simp only [List.length_map, List.length_append, List.length_cons, List.length_nil, List.length_take]; omega))) | (refine p_app0roR (r := r.Fields.map encField) ?_ ?_ ?_ ?_ (h := ?_); (focus (first | with_reducible rfl | with_reducible exact List.nil_append _ | with_reducible exact (List.map_append ..).symm | (rw [take_snoc (by assumption), List.map_append]; rfl) | (rw [List.map_append]; rfl) | (simp; done))); (focus (first | exact len_none | exact len_one rfl | exact len_two rfl rfl | exact len_enc (fun _ => rfl))); (focus ((conv => lhs; rhs; whnf); simp only [List.length_map, List.length_append, List.length_cons, List.length_nil, List.length_take]; omega)); (focus (simp only [List.length_map, List.length_append, List.length_cons, List.length_nil, List.length_take]; omega))) | (refine go_ ?_; ((repeat' first | exact True.intro | refine Two.mk ?_ ?_); all_goals intros)) | fail "")
  all_goals first
    | (exact endwA_)
    | skip
/-- the next frame -/
def nxR (s : List UInt8) : Nat × List UInt8 × Nat × Int :=
  if (varD s).2.2 ≠ 0 then (0, [], 0, (varD s).2.2)
  else if (varD (s.drop (varD s).2.1)).2.2 ≠ 0 then (0, [], 0, (varD (s.drop (varD s).2.1)).2.2)
  else if 400 < (varD (s.drop (varD s).2.1)).1 then (0, [], 0, 1)
  else if s.length < (varD s).2.1 + (varD (s.drop (varD s).2.1)).2.1 + (varD (s.drop (varD s).2.1)).1 then (0, [], 0, 4)
  else ((varD s).1, (s.take ((varD s).2.1 + (varD (s.drop (varD s).2.1)).2.1 + (varD (s.drop (varD s).2.1)).1)).drop ((varD s).2.1 + (varD (s.drop (varD s).2.1)).2.1), (varD s).2.1 + (varD (s.drop (varD s).2.1)).2.1 + (varD (s.drop (varD s).2.1)).1, 0)
def encNx (r : Nat × List UInt8 × Nat × Int) : V := .tup [.lit (.int .i64 r.1), .ro (r.2.1.map encB), .lit (.int .i64 r.2.2.1), .lit (.int .i64 r.2.2.2)]
set_option maxHeartbeats 1000000 in
theorem next_fn (s : List UInt8) (hs : s.length ≤ 100000) : Fn Try.prog 83 [.ro (s.map encB)] (encNx (nxR s)) := by
  have h1 := varDecode_fn s (by omega)
  have h2 := varDecode_fn (s.drop (varD s).2.1) (by rw [List.length_drop]; omega)
  unfold nxR encNx
  rcases ha : varD s with ⟨n1, k1, e1⟩
  rw [ha] at h1 h2
  dsimp only at h1 h2 ⊢
  have ho := varD_ok ha
  by_cases c1 : e1 = 0
  · subst c1
    obtain ⟨_, a1, a2, a3, a4⟩ := ho.resolve_right (fun h => by have := h.1; omega)
    rw [if_neg (by omega)]
    rcases hb : varD (s.drop k1) with ⟨n2, k2, e2⟩
    rw [hb] at h2
    dsimp only at h2 ⊢
    have ho2 := varD_ok hb
    rw [List.length_drop] at ho2
    by_cases c2 : e2 = 0
    · subst c2
      obtain ⟨_, b1, b2, b3, b4⟩ := ho2.resolve_right (fun h => by have := h.1; omega)
      rw [if_neg (by omega)]
      clear ha hb ho ho2
      by_cases c3 : 400 < n2
      · rw [if_pos c3]
        refine fn_of_run (by kernel_rfl) Try.func83 rfl (by kernel_rfl) ?_
        (repeat' first | (refine s_call (h1) (h := ?_)) | (refine p_call (h1) (h := ?_)) | (refine s_call (h2) (h := ?_)) | (refine p_call (h2) (h := ?_)) | (refine s_slice (r := s.drop k1) (k1) (s.length) ?_ ?_ ?_ ?_ ?_ (h := ?_); (focus (first | rfl | (simp only [Option.getD_some, Option.getD_none, List.length_map]; omega))); (focus (first | rfl | (simp only [Option.getD_some, Option.getD_none, List.length_map]; omega))); (focus omega); (focus omega); (focus (first | with_reducible rfl | assumption | (simp; done)))) | (refine p_slice (r := s.drop k1) (k1) (s.length) ?_ ?_ ?_ ?_ ?_ (h := ?_); (focus (first | rfl | (simp only [Option.getD_some, Option.getD_none, List.length_map]; omega))); (focus (first | rfl | (simp only [Option.getD_some, Option.getD_none, List.length_map]; omega))); (focus omega); (focus omega); (focus (first | with_reducible rfl | assumption | (simp; done)))) | (refine s_slice_str (r := s.drop k1) (k1) (s.length) ?_ ?_ ?_ ?_ ?_ (h := ?_); (focus (first | rfl | (simp only [Option.getD_some, Option.getD_none, List.length_map]; omega))); (focus (first | rfl | (simp only [Option.getD_some, Option.getD_none, List.length_map]; omega))); (focus omega); (focus omega); (focus (first | with_reducible rfl | assumption | (simp; done)))) | (refine p_slice_str (r := s.drop k1) (k1) (s.length) ?_ ?_ ?_ ?_ ?_ (h := ?_); (focus (first | rfl | (simp only [Option.getD_some, Option.getD_none, List.length_map]; omega))); (focus (first | rfl | (simp only [Option.getD_some, Option.getD_none, List.length_map]; omega))); (focus omega); (focus omega); (focus (first | with_reducible rfl | assumption | (simp; done)))) | (refine s_sliceO (r := s.drop k1) (k1) (s.length) ?_ ?_ ?_ ?_ ?_ (h := ?_); (focus (first | rfl | (simp only [Option.getD_some, Option.getD_none, List.length_map]; omega))); (focus (first | rfl | (simp only [Option.getD_some, Option.getD_none, List.length_map]; omega))); (focus omega); (focus omega); (focus (first | with_reducible rfl | assumption | (simp; done)))) | (refine s_sliceM (r := s.drop k1) (k1) (s.length) ?_ ?_ ?_ ?_ ?_ (h := ?_); (focus (first | rfl | (simp only [Option.getD_some, Option.getD_none, List.length_map]; omega))); (focus (first | rfl | (simp only [Option.getD_some, Option.getD_none, List.length_map]; omega))); (focus omega); (focus omega); (focus (first | with_reducible rfl | assumption | (simp; done)))) | (refine go_ ?_; ((repeat' first | exact True.intro | refine Two.mk ?_ ?_); all_goals intros)) | fail "")
        all_goals first
          | (exact endwA_)
          | skip
      · rw [if_neg c3]
        by_cases c4 : s.length < k1 + k2 + n2
        · rw [if_pos c4]
          refine fn_of_run (by kernel_rfl) Try.func83 rfl (by kernel_rfl) ?_
          (repeat' first | (refine s_call (h1) (h := ?_)) | (refine p_call (h1) (h := ?_)) | (refine s_call (h2) (h := ?_)) | (refine p_call (h2) (h := ?_)) | (refine s_slice (r := s.drop k1) (k1) (s.length) ?_ ?_ ?_ ?_ ?_ (h := ?_); (focus (first | rfl | (simp only [Option.getD_some, Option.getD_none, List.length_map]; omega))); (focus (first | rfl | (simp only [Option.getD_some, Option.getD_none, List.length_map]; omega))); (focus omega); (focus omega); (focus (first | with_reducible rfl | assumption | (simp; done)))) | (refine p_slice (r := s.drop k1) (k1) (s.length) ?_ ?_ ?_ ?_ ?_ (h := ?_); (focus (first | rfl | (simp only [Option.getD_some, Option.getD_none, List.length_map]; omega))); (focus (first | rfl | (simp only [Option.getD_some, Option.getD_none, List.length_map]; omega))); (focus omega); (focus omega); (focus (first | with_reducible rfl | assumption | (simp; done)))) | (refine s_slice_str (r := s.drop k1) (k1) (s.length) ?_ ?_ ?_ ?_ ?_ (h := ?_); (focus (first | rfl | (simp only [Option.getD_some, Option.getD_none, List.length_map]; omega))); (focus (first | rfl | (simp only [Option.getD_some, Option.getD_none, List.length_map]; omega))); (focus omega); (focus omega); (focus (first | with_reducible rfl | assumption | (simp; done)))) | (refine p_slice_str (r := s.drop k1) (k1) (s.length) ?_ ?_ ?_ ?_ ?_ (h := ?_); (focus (first | rfl | (simp only [Option.getD_some, Option.getD_none, List.length_map]; omega))); (focus (first | rfl | (simp only [Option.getD_some, Option.getD_none, List.length_map]; omega))); (focus omega); (focus omega); (focus (first | with_reducible rfl | assumption | (simp; done)))) | (refine s_sliceO (r := s.drop k1) (k1) (s.length) ?_ ?_ ?_ ?_ ?_ (h := ?_); (focus (first | rfl | (simp only [Option.getD_some, Option.getD_none, List.length_map]; omega))); (focus (first | rfl | (simp only [Option.getD_some, Option.getD_none, List.length_map]; omega))); (focus omega); (focus omega); (focus (first | with_reducible rfl | assumption | (simp; done)))) | (refine s_sliceM (r := s.drop k1) (k1) (s.length) ?_ ?_ ?_ ?_ ?_ (h := ?_); (focus (first | rfl | (simp only [Option.getD_some, Option.getD_none, List.length_map]; omega))); (focus (first | rfl | (simp only [Option.getD_some, Option.getD_none, List.length_map]; omega))); (focus omega); (focus omega); (focus (first | with_reducible rfl | assumption | (simp; done)))) | (refine go_ ?_; ((repeat' first | exact True.intro | refine Two.mk ?_ ?_); all_goals intros)) | fail "")
          all_goals first
            | (exact endwA_)
            | skip
        · rw [if_neg c4]
          refine fn_of_run (by kernel_rfl) Try.func83 rfl (by kernel_rfl) ?_
          (repeat' first | (refine s_call (h1) (h := ?_)) | (refine p_call (h1) (h := ?_)) | (refine s_call (h2) (h := ?_)) | (refine p_call (h2) (h := ?_)) | (refine s_slice (r := s.drop k1) (k1) (s.length) ?_ ?_ ?_ ?_ ?_ (h := ?_); (focus (first | rfl | (simp only [Option.getD_some, Option.getD_none, List.length_map]; omega))); (focus (first | rfl | (simp only [Option.getD_some, Option.getD_none, List.length_map]; omega))); (focus omega); (focus omega); (focus (first | with_reducible rfl | assumption | (simp; done)))) | (refine p_slice (r := s.drop k1) (k1) (s.length) ?_ ?_ ?_ ?_ ?_ (h := ?_); (focus (first | rfl | (simp only [Option.getD_some, Option.getD_none, List.length_map]; omega))); (focus (first | rfl | (simp only [Option.getD_some, Option.getD_none, List.length_map]; omega))); (focus omega); (focus omega); (focus (first | with_reducible rfl | assumption | (simp; done)))) | (refine s_slice_str (r := s.drop k1) (k1) (s.length) ?_ ?_ ?_ ?_ ?_ (h := ?_); (focus (first | rfl | (simp only [Option.getD_some, Option.getD_none, List.length_map]; omega))); (focus (first | rfl | (simp only [Option.getD_some, Option.getD_none, List.length_map]; omega))); (focus omega); (focus omega); (focus (first | with_reducible rfl | assumption | (simp; done)))) | (refine p_slice_str (r := s.drop k1) (k1) (s.length) ?_ ?_ ?_ ?_ ?_ (h := ?_); (focus (first | rfl | (simp only [Option.getD_some, Option.getD_none, List.length_map]; omega))); (focus (first | rfl | (simp only [Option.getD_some, Option.getD_none, List.length_map]; omega))); (focus omega); (focus omega); (focus (first | with_reducible rfl | assumption | (simp; done)))) | (refine s_sliceO (r := s.drop k1) (k1) (s.length) ?_ ?_ ?_ ?_ ?_ (h := ?_); (focus (first | rfl | (simp only [Option.getD_some, Option.getD_none, List.length_map]; omega))); (focus (first | rfl | (simp only [Option.getD_some, Option.getD_none, List.length_map]; omega))); (focus omega); (focus omega); (focus (first | with_reducible rfl | assumption | (simp; done)))) | (refine s_sliceM (r := s.drop k1) (k1) (s.length) ?_ ?_ ?_ ?_ ?_ (h := ?_); (focus (first | rfl | (simp only [Option.getD_some, Option.getD_none, List.length_map]; omega))); (focus (first | rfl | (simp only [Option.getD_some, Option.getD_none, List.length_map]; omega))); (focus omega); (focus omega); (focus (first | with_reducible rfl | assumption | (simp; done)))) | (refine s_slice (k1 + k2) (k1 + k2 + n2) ?_ ?_ ?_ ?_ rfl (h := ?_); (focus (first | rfl | (simp only [Option.getD_some, Option.getD_none, List.length_map]; omega))); (focus (first | rfl | (simp only [Option.getD_some, Option.getD_none, List.length_map]; omega))); (focus omega); (focus omega)) | (refine p_slice (k1 + k2) (k1 + k2 + n2) ?_ ?_ ?_ ?_ rfl (h := ?_); (focus (first | rfl | (simp only [Option.getD_some, Option.getD_none, List.length_map]; omega))); (focus (first | rfl | (simp only [Option.getD_some, Option.getD_none, List.length_map]; omega))); (focus omega); (focus omega)) | (refine s_slice_str (k1 + k2) (k1 + k2 + n2) ?_ ?_ ?_ ?_ rfl (h := ?_); (focus (first | rfl | (simp only [Option.getD_some, Option.getD_none, List.length_map]; omega))); (focus (first | rfl | (simp only [Option.getD_some, Option.getD_none, List.length_map]; omega))); (focus omega); (focus omega)) | (refine p_slice_str (k1 + k2) (k1 + k2 + n2) ?_ ?_ ?_ ?_ rfl (h := ?_); (focus (first | rfl | (simp only [Option.getD_some, Option.getD_none, List.length_map]; omega))); (focus (first | rfl | (simp only [Option.getD_some, Option.getD_none, List.length_map]; omega))); (focus omega); (focus omega)) | (refine s_sliceO (k1 + k2) (k1 + k2 + n2) ?_ ?_ ?_ ?_ rfl (h := ?_); (focus (first | rfl | (simp only [Option.getD_some, Option.getD_none, List.length_map]; omega))); (focus (first | rfl | (simp only [Option.getD_some, Option.getD_none, List.length_map]; omega))); (focus omega); (focus omega)) | (refine s_sliceM (k1 + k2) (k1 + k2 + n2) ?_ ?_ ?_ ?_ rfl (h := ?_); (focus (first | rfl | (simp only [Option.getD_some, Option.getD_none, List.length_map]; omega))); (focus (first | rfl | (simp only [Option.getD_some, Option.getD_none, List.length_map]; omega))); (focus omega); (focus omega)) | (refine go_ ?_; ((repeat' first | exact True.intro | refine Two.mk ?_ ?_); all_goals intros)) | fail "")
          all_goals first
            | (exact endwA_)
            | skip
    · rw [if_pos c2]
      clear ha hb ho2
      refine fn_of_run (by kernel_rfl) Try.func83 rfl (by kernel_rfl) ?_
      (repeat' first | (refine s_call (h1) (h := ?_)) | (refine p_call (h1) (h := ?_)) | (refine s_call (h2) (h := ?_)) | (refine p_call (h2) (h := ?_)) | (refine s_slice (r := s.drop k1) (k1) (s.length) ?_ ?_ ?_ ?_ ?_ (h := ?_); (focus (first | rfl | (simp only [Option.getD_some, Option.getD_none, List.length_map]; omega))); (focus (first | rfl | (simp only [Option.getD_some, Option.getD_none, List.length_map]; omega))); (focus omega); (focus omega); (focus (first | with_reducible rfl | assumption | (simp; done)))) | (refine p_slice (r := s.drop k1) (k1) (s.length) ?_ ?_ ?_ ?_ ?_ (h := ?_); (focus (first | rfl | (simp only [Option.getD_some, Option.getD_none, List.length_map]; omega))); (focus (first | rfl | (simp only [Option.getD_some, Option.getD_none, List.length_map]; omega))); (focus omega); (focus omega); (focus (first | with_reducible rfl | assumption | (simp; done)))) | (refine s_slice_str (r := s.drop k1) (k1) (s.length) ?_ ?_ ?_ ?_ ?_ (h := ?_); (focus (first | rfl | (simp only [Option.getD_some, Option.getD_none, List.length_map]; omega))); (focus (first | rfl | (simp only [Option.getD_some, Option.getD_none, List.length_map]; omega))); (focus omega); (focus omega); (focus (first | with_reducible rfl | assumption | (simp; done)))) | (refine p_slice_str (r := s.drop k1) (k1) (s.length) ?_ ?_ ?_ ?_ ?_ (h := ?_); (focus (first | rfl | (simp only [Option.getD_some, Option.getD_none, List.length_map]; omega))); (focus (first | rfl | (simp only [Option.getD_some, Option.getD_none, List.length_map]; omega))); (focus omega); (focus omega); (focus (first | with_reducible rfl | assumption | (simp; done)))) | (refine s_sliceO (r := s.drop k1) (k1) (s.length) ?_ ?_ ?_ ?_ ?_ (h := ?_); (focus (first | rfl | (simp only [Option.getD_some, Option.getD_none, List.length_map]; omega))); (focus (first | rfl | (simp only [Option.getD_some, Option.getD_none, List.length_map]; omega))); (focus omega); (focus omega); (focus (first | with_reducible rfl | assumption | (simp; done)))) | (refine s_sliceM (r := s.drop k1) (k1) (s.length) ?_ ?_ ?_ ?_ ?_ (h := ?_); (focus (first | rfl | (simp only [Option.getD_some, Option.getD_none, List.length_map]; omega))); (focus (first | rfl | (simp only [Option.getD_some, Option.getD_none, List.length_map]; omega))); (focus omega); (focus omega); (focus (first | with_reducible rfl | assumption | (simp; done)))) | (refine go_ ?_; ((repeat' first | exact True.intro | refine Two.mk ?_ ?_); all_goals intros)) | fail "")
      all_goals first
        | (exact endwA_)
        | skip
  · rw [if_pos c1]
    clear h2 ha
    refine fn_of_run (by kernel_rfl) Try.func83 rfl (by kernel_rfl) ?_
    (repeat' first | (refine s_call (h1) (h := ?_)) | (refine p_call (h1) (h := ?_)) | (refine go_ ?_; ((repeat' first | exact True.intro | refine Two.mk ?_ ?_); all_goals intros)) | fail "")
    all_goals first
      | (exact endwA_)
      | skip
theorem nxR_ok {s : List UInt8} {n : Nat} {b : List UInt8} {u : Nat} {e : Int} (h : nxR s = (n, b, u, e)) : (e = 0 ∧ 2 ≤ u ∧ u ≤ s.length ∧ b.length ≤ 400 ∧ n ≤ 4611686018427387903) ∨ (e = 4 ∧ b = []) ∨ (e = 1 ∧ b = []) := by
  unfold nxR at h
  rcases ha : varD s with ⟨n1, k1, e1⟩
  rw [ha] at h
  dsimp only at h
  have ho := varD_ok ha
  split at h
  · injection h with h1 h; injection h with h2 h; injection h with h3 h4
    exact .inr (.inl ⟨by omega, h2.symm⟩)
  · rcases hb : varD (s.drop k1) with ⟨n2, k2, e2⟩
    rw [hb] at h
    dsimp only at h
    have ho2 := varD_ok hb
    rw [List.length_drop] at ho2
    split at h
    · injection h with h1 h; injection h with h2 h; injection h with h3 h4
      exact .inr (.inl ⟨by omega, h2.symm⟩)
    · split at h
      · injection h with h1 h; injection h with h2 h; injection h with h3 h4
        exact .inr (.inr ⟨by omega, h2.symm⟩)
      · split at h
        · injection h with h1 h; injection h with h2 h; injection h with h3 h4
          exact .inr (.inl ⟨by omega, h2.symm⟩)
        · injection h with h1 h; injection h with h2 h; injection h with h3 h4
          subst h1 h2 h3
          refine .inl ⟨by omega, by omega, by omega, ?_, by omega⟩
          rw [List.length_drop, List.length_take]; omega
theorem deR_ok (t : DTable) (b : List UInt8) : ((deR t b).2 = 0 → fldsFlt (deR t b).1 = 0) ∧ ((deR t b).2 ≠ 0 → (deR t b).1 = []) := by
  unfold deR
  split
  · exact ⟨fun h => absurd h (by assumption), fun _ => rfl⟩
  · split
    · exact ⟨fun h => absurd h (by assumption), fun _ => rfl⟩
    · split
      · exact ⟨fun h => by simp at h, fun _ => rfl⟩
      · unfold deEnd
        split
        · exact ⟨fun h => absurd h (by assumption), fun _ => rfl⟩
        · split
          · exact ⟨fun h => absurd h (by assumption), fun _ => rfl⟩
          · exact ⟨fun _ => (by dsimp only; omega), fun h => absurd rfl h⟩
theorem deR_wf (t : DTable) (b : List UInt8) : (deR t b).1.length ≤ 8 ∧ ∀ f ∈ (deR t b).1, wfField f := by
  obtain ⟨h1, h2⟩ := deR_ok t b
  by_cases h : (deR t b).2 = 0
  · obtain ⟨h3, h4⟩ := fldsFlt_ok2 (h1 h)
    exact ⟨h3, fun f hf => by have := h4 f hf; unfold fldOk at this; unfold wfField; omega⟩
  · rw [h2 h]
    exact ⟨Nat.zero_le _, fun f hf => by cases hf⟩
/-- what a frame does -/
noncomputable def frR (t : DTable) (r : DReader) (kind : Nat) (b : List UInt8) : DReader × Int :=
  if (kind = 1 ∧ r.Begun = true) ∨ (kind = 0 ∧ r.Begun = false) then (r, 3)
  else if kind = 1 then if (deR t b).2 ≠ 0 then (⟨r.Held, (deR t b).1, false, r.Body, r.Ended⟩, (deR t b).2) else (⟨r.Held, (deR t b).1, decide (reqFlt (deR t b).1 = 0), r.Body, r.Ended⟩, reqFlt (deR t b).1)
  else if kind = 0 then if 200 < r.Body.length + b.length then (r, 1) else (⟨r.Held, r.Fields, r.Begun, r.Body ++ b, r.Ended⟩, 0)
  else (r, 0)
def fits (r : DReader) (kind : Nat) (b : List UInt8) : Prop := kind = 0 ∧ r.Begun = true ∧ r.Body.length + b.length ≤ 200
def cR (r : DReader) (n : Nat) : List V := [.ro (r.Held.map encB), .ro (r.Fields.map encField), .lit (.bool r.Begun), .own n, .lit (.bool r.Ended)]
set_option maxHeartbeats 1000000 in
theorem frame_app (t : DTable) (r : DReader) (kind : Nat) (b : List UInt8) (hw : wfTable t) (hb : b.length ≤ 400) (hf : fits r kind b) :
    FnM Try.prog 84 [.agg (cR r 0), .agg (encTable t), .lit (.int .i64 kind), .ro (b.map encB)] [(0, some (.row 5 1 (r.Body.map encB)))] 1 (.tup [.agg (cR (frR t r kind b).1 1), .lit (.int .i64 (frR t r kind b).2)]) [(1, some (.row 5 1 ((frR t r kind b).1.Body.map encB)))] 2 := by
  obtain ⟨rfl, h2, h3⟩ := hf
  have e : frR t r 0 b = (⟨r.Held, r.Fields, r.Begun, r.Body ++ b, r.Ended⟩, 0) := by
    unfold frR
    rw [if_neg (by rw [h2]; simp), if_neg (by omega), if_pos rfl, if_neg (by omega)]
  rw [e]
  unfold cR
  obtain ⟨held, flds, begun, body, ended⟩ := r
  dsimp only at *
  subst h2
  refine fnm_of_run (by kernel_rfl) Try.func84 rfl (by kernel_rfl) (by rfl) ?_
  (repeat' first | (refine s_app (r := (body ++ b).map encB) ?_ ?_ ?_ ?_ (h := ?_); (focus (first | with_reducible rfl | with_reducible exact List.nil_append _ | with_reducible exact (List.map_append ..).symm | (rw [take_snoc (by assumption), List.map_append]; rfl) | (rw [List.map_append]; rfl) | (simp; done))); (focus (first | exact len_none | exact len_one rfl | exact len_two rfl rfl | exact len_enc (fun _ => rfl))); (focus ((conv => lhs; rhs; whnf); simp only [List.length_map, List.length_append, List.length_cons, List.length_nil, List.length_take]; omega)); (focus (simp only [List.length_map, List.length_append, List.length_cons, List.length_nil, List.length_take]; omega))) | (refine s_app0R (r := (body ++ b).map encB) ?_ ?_ ?_ ?_ (h := ?_); (focus (first | with_reducible rfl | with_reducible exact List.nil_append _ | with_reducible exact (List.map_append ..).symm | (rw [take_snoc (by assumption), List.map_append]; rfl) | (rw [List.map_append]; rfl) | (simp; done))); (focus (first | exact len_none | exact len_one rfl | exact len_two rfl rfl | exact len_enc (fun _ => rfl))); (focus ((conv => lhs; rhs; whnf); simp only [List.length_map, List.length_append, List.length_cons, List.length_nil, List.length_take]; omega)); (focus (simp only [List.length_map, List.length_append, List.length_cons, List.length_nil, List.length_take]; omega))) | (refine p_app (r := (body ++ b).map encB) ?_ ?_ ?_ ?_ (h := ?_); (focus (first | with_reducible rfl | with_reducible exact List.nil_append _ | with_reducible exact (List.map_append ..).symm | (rw [take_snoc (by assumption), List.map_append]; rfl) | (rw [List.map_append]; rfl) | (simp; done))); (focus (first | exact len_none | exact len_one rfl | exact len_two rfl rfl | exact len_enc (fun _ => rfl))); (focus ((conv => lhs; rhs; whnf); simp only [List.length_map, List.length_append, List.length_cons, List.length_nil, List.length_take]; omega)); (focus (simp only [List.length_map, List.length_append, List.length_cons, List.length_nil, List.length_take]; omega))) | (refine p_app0R (r := (body ++ b).map encB) ?_ ?_ ?_ ?_ (h := ?_); (focus (first | with_reducible rfl | with_reducible exact List.nil_append _ | with_reducible exact (List.map_append ..).symm | (rw [take_snoc (by assumption), List.map_append]; rfl) | (rw [List.map_append]; rfl) | (simp; done))); (focus (first | exact len_none | exact len_one rfl | exact len_two rfl rfl | exact len_enc (fun _ => rfl))); (focus ((conv => lhs; rhs; whnf); simp only [List.length_map, List.length_append, List.length_cons, List.length_nil, List.length_take]; omega)); (focus (simp only [List.length_map, List.length_append, List.length_cons, List.length_nil, List.length_take]; omega))) | (refine go_ ?_; ((repeat' first | exact True.intro | refine Two.mk ?_ ?_); all_goals intros)) | fail "")
  all_goals first
    | (exact endmA_)
    | skip
theorem frR_body {t : DTable} {r : DReader} {kind : Nat} {b : List UInt8} (hf : ¬ fits r kind b) : (frR t r kind b).1.Body = r.Body := by
  unfold frR
  split
  · rfl
  · rename_i c1
    split
    · split <;> rfl
    · split
      · rename_i c3
        split
        · rfl
        · refine absurd ⟨c3, ?_, by omega⟩ hf
          cases hb : r.Begun with
          | true => rfl
          | false => exact absurd (.inr ⟨c3, hb⟩) c1
      · rfl
set_option maxHeartbeats 2000000 in
theorem frame_keep (t : DTable) (r : DReader) (kind : Nat) (b : List UInt8) (hw : wfTable t) (hb : b.length ≤ 400) (hk : kind ≤ 4611686018427387903) (hbl : r.Body.length ≤ 200) (hf : ¬ fits r kind b) :
    FnM Try.prog 84 [.agg (cR r 0), .agg (encTable t), .lit (.int .i64 kind), .ro (b.map encB)] [(0, some (.row 5 1 (r.Body.map encB)))] 1 (.tup [.agg (cR (frR t r kind b).1 0), .lit (.int .i64 (frR t r kind b).2)]) [(0, some (.row 5 1 (r.Body.map encB)))] 1 := by
  have h1 := decodeF_fn t b hw (by omega)
  obtain ⟨hl, hwf⟩ := deR_wf t b
  have h2 := reqCheck_fn (deR t b).1 hwf (by omega)
  unfold fits at hf
  obtain ⟨held, flds, begun, body, ended⟩ := r
  unfold frR cR
  dsimp only at *
  by_cases c1 : (kind = 1 ∧ begun = true) ∨ (kind = 0 ∧ begun = false)
  · rw [if_pos c1]
    rcases c1 with ⟨rfl, rfl⟩ | ⟨rfl, rfl⟩
    · refine fnm_of_run (by kernel_rfl) Try.func84 rfl (by kernel_rfl) (by rfl) ?_
      (repeat' first | (refine go_ ?_; ((repeat' first | exact True.intro | refine Two.mk ?_ ?_); all_goals intros)) | fail "")
      all_goals first
        | (exact endmA_)
        | skip
    · refine fnm_of_run (by kernel_rfl) Try.func84 rfl (by kernel_rfl) (by rfl) ?_
      (repeat' first | (refine go_ ?_; ((repeat' first | exact True.intro | refine Two.mk ?_ ?_); all_goals intros)) | fail "")
      all_goals first
        | (exact endmA_)
        | skip
  · rw [if_neg c1]
    by_cases c2 : kind = 1
    · rw [if_pos c2]
      subst c2
      have hbg : begun = false := Bool.eq_false_iff.2 (fun h => c1 (.inl ⟨rfl, h⟩))
      subst hbg
      generalize deR t b = x at *
      obtain ⟨l, e⟩ := x
      dsimp only at *
      by_cases c3 : e = 0
      · rw [if_neg (by omega)]
        subst c3
        by_cases c4 : reqFlt l = 0
        · rw [c4] at h2 ⊢
          rw [decide_eq_true rfl]
          refine fnm_of_run (by kernel_rfl) Try.func84 rfl (by kernel_rfl) (by rfl) ?_
          (repeat' first | (refine s_call (h1) (h := ?_)) | (refine p_call (h1) (h := ?_)) | (refine s_call (h2) (h := ?_)) | (refine p_call (h2) (h := ?_)) | (refine go_ ?_; ((repeat' first | exact True.intro | refine Two.mk ?_ ?_); all_goals intros)) | fail "")
          all_goals first
            | (exact endmA_)
            | skip
        · rw [decide_eq_false c4]
          generalize reqFlt l = e2 at *
          refine fnm_of_run (by kernel_rfl) Try.func84 rfl (by kernel_rfl) (by rfl) ?_
          (repeat' first | (refine s_call (h1) (h := ?_)) | (refine p_call (h1) (h := ?_)) | (refine s_call (h2) (h := ?_)) | (refine p_call (h2) (h := ?_)) | (refine go_ ?_; ((repeat' first | exact True.intro | refine Two.mk ?_ ?_); all_goals intros)) | fail "")
          all_goals first
            | (exact endmA_)
            | skip
      · rw [if_pos c3]
        refine fnm_of_run (by kernel_rfl) Try.func84 rfl (by kernel_rfl) (by rfl) ?_
        (repeat' first | (refine s_call (h1) (h := ?_)) | (refine p_call (h1) (h := ?_)) | (refine s_call (h2) (h := ?_)) | (refine p_call (h2) (h := ?_)) | (refine go_ ?_; ((repeat' first | exact True.intro | refine Two.mk ?_ ?_); all_goals intros)) | fail "")
        all_goals first
          | (exact endmA_)
          | skip
    · rw [if_neg c2]
      by_cases c3 : kind = 0
      · rw [if_pos c3]
        subst c3
        have hbg : begun = true := by
          cases hb : begun with
          | true => rfl
          | false => exact absurd (.inr ⟨rfl, hb⟩) c1
        subst hbg
        have hf2 : 200 < body.length + b.length := Nat.lt_of_not_le (fun h => hf ⟨rfl, rfl, h⟩)
        rw [if_pos hf2]
        refine fnm_of_run (by kernel_rfl) Try.func84 rfl (by kernel_rfl) (by rfl) ?_
        (repeat' first | (refine go_ ?_; ((repeat' first | exact True.intro | refine Two.mk ?_ ?_); all_goals intros)) | fail "")
        all_goals first
          | (exact endmA_)
          | skip
      · rw [if_neg c3]
        cases begun
        all_goals (refine fnm_of_run (by kernel_rfl) Try.func84 rfl (by kernel_rfl) (by rfl) ?_)
        all_goals (repeat' first | (refine go_ ?_; ((repeat' first | exact True.intro | refine Two.mk ?_ ?_); all_goals intros)) | fail "")
        all_goals first
          | (exact endmA_)
          | skip
/-! ### the frames, one behind another -/
def rdZ : DReader := ⟨[], [], false, [], false⟩
def fdEnd (fin : Bool) (r : DReader) : DReader × Int := if fin = true ∧ r.Begun = false then (rdZ, 4) else (⟨r.Held, r.Fields, r.Begun, r.Body, fin⟩, 0)
def withHeld (r : DReader) (s : List UInt8) : DReader := ⟨s, r.Fields, r.Begun, r.Body, r.Ended⟩
noncomputable def fdRun (t : DTable) (fin : Bool) : Nat → DReader → DReader × Int
  | 0, r => (r, 0)
  | n + 1, r => if r.Held.length = 0 then fdEnd fin r
    else if (nxR r.Held).2.2.2 = 4 ∧ fin = false then (r, 0)
    else if (nxR r.Held).2.2.2 ≠ 0 then (rdZ, (nxR r.Held).2.2.2)
    else if (frR t r (nxR r.Held).1 (nxR r.Held).2.1).2 = 14 then (r, 14)
    else if (frR t r (nxR r.Held).1 (nxR r.Held).2.1).2 ≠ 0 then (rdZ, (frR t r (nxR r.Held).1 (nxR r.Held).2.1).2)
    else fdRun t fin n (withHeld (frR t r (nxR r.Held).1 (nxR r.Held).2.1).1 (r.Held.drop (nxR r.Held).2.2.1))
/-- P16.3 -/
noncomputable def fdR (r : DReader) (t : DTable) (b : List UInt8) (fin : Bool) : DReader × Int :=
  if 800 < r.Held.length ∨ 200 < r.Body.length ∨ 800 < b.length then (rdZ, 1) else if r.Ended = true then (rdZ, 17)
  else fdRun t fin (r.Held.length + b.length + 1) (withHeld r (r.Held ++ b))
def encFd (r : DReader × Int) : V := .tup [.agg (encReader r.1), .lit (.int .i64 r.2)]
/-- what stays so -/
structure RdOk (r : DReader) : Prop where
  held : r.Held.length ≤ 1600
  body : r.Body.length ≤ 200
  flds : r.Fields.length * 32 ≤ 140737488351232
  wf : ∀ f ∈ r.Fields, wfField f
  ended : r.Ended = false
theorem frR_ok {t : DTable} {r : DReader} {kind : Nat} {b : List UInt8} (h : RdOk r) (he : (frR t r kind b).2 = 0) : (frR t r kind b).1.Held = r.Held ∧ RdOk (frR t r kind b).1 := by
  obtain ⟨hl, hwf⟩ := deR_wf t b
  unfold frR at he ⊢
  split
  · exact ⟨rfl, h⟩
  · rename_i c1
    rw [if_neg c1] at he
    split
    · rename_i c2
      rw [if_pos c2] at he
      split
      · exact ⟨rfl, h.held, h.body, by dsimp only; omega, hwf, h.ended⟩
      · exact ⟨rfl, h.held, h.body, by dsimp only; omega, hwf, h.ended⟩
    · rename_i c2
      rw [if_neg c2] at he
      split
      · rename_i c3
        rw [if_pos c3] at he
        split
        · exact ⟨rfl, h⟩
        · exact ⟨rfl, h.held, by dsimp only; rw [List.length_append]; omega, h.flds, h.wf, h.ended⟩
      · exact ⟨rfl, h⟩
theorem rdOk_drop {r : DReader} (h : RdOk r) (u : Nat) (s : List UInt8) (hs : s.length ≤ 1600) : RdOk (withHeld r (s.drop u)) := ⟨by unfold withHeld; dsimp only; rw [List.length_drop]; omega, h.body, h.flds, h.wf, h.ended⟩
theorem rdOk_wf {r : DReader} (h : RdOk r) : wfReader r := ⟨by have := h.held; omega, h.flds, h.wf, by have := h.body; omega⟩
end Go.Proofs.Ythpophgcmgdpjaa
