/-
  Tables made to fit, and the reference's: what each answers. No condition.
-/
import Derived.Test.YthpophgcmgdpjaaGo
import Derived.Test.YthpophgcmgdpjaaTab
set_option linter.unusedVariables false
set_option linter.unusedSimpArgs false
set_option linter.unusedVariables false
namespace Go.Proofs.Ythpophgcmgdpjaa
set_option maxRecDepth 100000
set_option maxHeartbeats 2000000
attribute [local irreducible] Run RunL QStep GStep Fn Less PL FnM

/-- the eldest go, till the others fit -/
def fitL (room : Int) : List DField → List DField
  | [] => []
  | f :: l => if (fSum (f :: l) : Int) ≤ room then f :: l else fitL room l
theorem fitL_ok {room : Int} {l : List DField} (h : (fSum l : Int) ≤ room) : fitL room l = l := by
  cases l with
  | nil => rfl
  | cons f l => unfold fitL; rw [if_pos h]
theorem fitL_step {room : Int} {l : List DField} {k : Nat} (hk : k < l.length) (h : ¬ (fSum (l.drop k) : Int) ≤ room) : fitL room (l.drop k) = fitL room (l.drop (k + 1)) := by
  rw [drop_cons hk] at h ⊢
  conv => lhs; unfold fitL
  rw [if_neg h]
theorem fitL_len : ∀ (room : Int) (l : List DField), (fitL room l).length ≤ l.length
  | _, [] => Nat.le_refl _
  | room, f :: l => by
    unfold fitL
    split
    · exact Nat.le_refl _
    · have := fitL_len room l; simp only [List.length_cons]; omega
theorem fitL_mem : ∀ {room : Int} {l : List DField} {f : DField}, f ∈ fitL room l → f ∈ l
  | _, [], f, h => h
  | room, g :: l, f, h => by
    unfold fitL at h
    split at h
    · exact h
    · exact List.mem_cons_of_mem _ (fitL_mem h)
theorem fitL_sum : ∀ {room : Int} {l : List DField}, 0 ≤ room → (fSum (fitL room l) : Int) ≤ room
  | room, [], h => by simpa [fitL, fSum] using h
  | room, f :: l, h => by
    unfold fitL
    split
    · assumption
    · exact fitL_sum h
theorem fitL_drop : ∀ {l : List DField} {room : Int} {j : Nat}, j ≤ l.length → (fSum (l.drop j) : Int) ≤ room → (j = 0 ∨ room < (fSum (l.drop (j - 1)) : Int)) → fitL room l = l.drop j
  | [], room, j, _, _, _ => by simp [fitL]
  | f :: l, room, 0, _, h, _ => fitL_ok h
  | f :: l, room, j + 1, hj, h, h2 => by
    have h2 : room < (fSum ((f :: l).drop j) : Int) := by
      rcases h2 with h2 | h2
      · omega
      · simpa using h2
    have hle := fSum_drop_le (f :: l) j
    unfold fitL
    rw [if_neg (by omega), List.drop_succ_cons]
    refine fitL_drop (by simpa using hj) (by simpa using h) ?_
    rcases j with _ | j
    · exact .inl rfl
    · right
      simpa using h2
theorem fits_all {l : List DField} (h : ∀ f ∈ l, fldOk f) (hl : l.length ≤ 1000000000000000) (k : Nat) : wSum (l.drop k) (l.drop k).length = (fSum (l.drop k) : Int) := by
  have := fSum_ok h
  have := fSum_drop_le l k
  exact wSum_all (by omega)
theorem fitted_fnm (t : DTable) (room : Int) (hw : wfTable t) (ho : ∀ f ∈ t.Rows, fldOk f) (hr : 0 ≤ room) :
    FnM Try.prog 147 [.agg (encTable t), .lit (.int .i64 room)] [] 0 (.agg [.lit (.int .i64 t.Room), .lit (.int .i64 t.Put), .own 0]) [(0, some (.row 113 2 ((fitL room t.Rows).map encField)))] 1 := by
  have hl : t.Rows.length ≤ 1000000000000000 := by have := hw.2.2.1; omega
  have hl2 := hw.2.2.1
  refine fnm_of_run (by kernel_rfl) Try.func147 rfl (by kernel_rfl) (by rfl) ?_
  (repeat' first | (refine go_ ?_; ((repeat' first | exact True.intro | refine Two.mk ?_ ?_); all_goals intros)) | fail "")
  refine r_for (fun k : Nat => ⟨[(2, .ptr 0 0 0 0), (4, .ptr 1 0 0 0), (1, .lit (.int .i64 room)), (5, .ro ((t.Rows.drop k).map encField))], [(0, some (.box 24 (encTable t))), (1, some (.box 24 [.lit (.int .i64 0), .lit (.int .i64 0), .lit (.slice none 0 0)]))], 2, Try.f147.ntmps⟩)
    (fun k => k ≤ t.Rows.length ∧ fitL room (t.Rows.drop k) = fitL room t.Rows) (fun k => t.Rows.length - k) 0 ⟨Nat.zero_le _, rfl⟩ less_to ?_
  rintro k ⟨hk, hf⟩
  have hd : (t.Rows.drop k).length = t.Rows.length - k := List.length_drop ..
  have h1 := sizes_fn (t.Rows.drop k) (fun y hy => hw.2.2.2 y (List.mem_of_mem_drop hy)) (by omega)
  rw [fits_all ho hl k] at h1
  by_cases hs : (fSum (t.Rows.drop k) : Int) ≤ room
  · rw [fitL_ok hs] at hf
    rw [← hf]
    (repeat' first | (refine s_call (h1) (h := ?_)) | (refine p_call (h1) (h := ?_)) | (refine s_app (r := (t.Rows.drop k).map encField) ?_ ?_ ?_ ?_ (h := ?_); (focus (first | with_reducible rfl | with_reducible exact List.nil_append _ | with_reducible exact (List.map_append ..).symm | (rw [take_snoc (by assumption), List.map_append]; rfl) | (rw [List.map_append]; rfl) | (simp; done))); (focus (first | exact len_none | exact len_one rfl | exact len_two rfl rfl | exact len_enc (fun _ => rfl))); (focus ((conv => lhs; rhs; whnf); simp only [List.length_map, List.length_append, List.length_cons, List.length_nil, List.length_take]; omega)); (focus (simp only [List.length_map, List.length_append, List.length_cons, List.length_nil, List.length_take]; omega))) | (refine s_app0R (r := (t.Rows.drop k).map encField) ?_ ?_ ?_ ?_ (h := ?_); (focus (first | with_reducible rfl | with_reducible exact List.nil_append _ | with_reducible exact (List.map_append ..).symm | (rw [take_snoc (by assumption), List.map_append]; rfl) | (rw [List.map_append]; rfl) | (simp; done))); (focus (first | exact len_none | exact len_one rfl | exact len_two rfl rfl | exact len_enc (fun _ => rfl))); (focus ((conv => lhs; rhs; whnf); simp only [List.length_map, List.length_append, List.length_cons, List.length_nil, List.length_take]; omega)); (focus (simp only [List.length_map, List.length_append, List.length_cons, List.length_nil, List.length_take]; omega))) | (refine p_app (r := (t.Rows.drop k).map encField) ?_ ?_ ?_ ?_ (h := ?_); (focus (first | with_reducible rfl | with_reducible exact List.nil_append _ | with_reducible exact (List.map_append ..).symm | (rw [take_snoc (by assumption), List.map_append]; rfl) | (rw [List.map_append]; rfl) | (simp; done))); (focus (first | exact len_none | exact len_one rfl | exact len_two rfl rfl | exact len_enc (fun _ => rfl))); (focus ((conv => lhs; rhs; whnf); simp only [List.length_map, List.length_append, List.length_cons, List.length_nil, List.length_take]; omega)); (focus (simp only [List.length_map, List.length_append, List.length_cons, List.length_nil, List.length_take]; omega))) | (refine p_app0R (r := (t.Rows.drop k).map encField) ?_ ?_ ?_ ?_ (h := ?_); (focus (first | with_reducible rfl | with_reducible exact List.nil_append _ | with_reducible exact (List.map_append ..).symm | (rw [take_snoc (by assumption), List.map_append]; rfl) | (rw [List.map_append]; rfl) | (simp; done))); (focus (first | exact len_none | exact len_one rfl | exact len_two rfl rfl | exact len_enc (fun _ => rfl))); (focus ((conv => lhs; rhs; whnf); simp only [List.length_map, List.length_append, List.length_cons, List.length_nil, List.length_take]; omega)); (focus (simp only [List.length_map, List.length_append, List.length_cons, List.length_nil, List.length_take]; omega))) | (refine go_ ?_; ((repeat' first | exact True.intro | refine Two.mk ?_ ?_); all_goals intros)) | fail "")
    all_goals (exact endmA_)
  · have hkn : k < t.Rows.length := by
      rcases Nat.lt_or_ge k t.Rows.length with h | h
      · exact h
      · exfalso; rw [List.drop_eq_nil_of_le h] at hs; exact hs (by simpa [fSum] using hr)
    have hst := fitL_step hkn hs
    have hdd : ((t.Rows.drop k).take (t.Rows.drop k).length).drop 1 = t.Rows.drop (k + 1) := by rw [List.take_length]; exact List.drop_drop ..
    (repeat' first | (refine s_call (h1) (h := ?_)) | (refine p_call (h1) (h := ?_)) | (refine s_slice (r := t.Rows.drop (k + 1)) (1) ((t.Rows.drop k).length) ?_ ?_ ?_ ?_ ?_ (h := ?_); (focus (first | rfl | (simp only [Option.getD_some, Option.getD_none, List.length_map]; omega))); (focus (first | rfl | (simp only [Option.getD_some, Option.getD_none, List.length_map]; omega))); (focus omega); (focus omega); (focus (first | with_reducible rfl | assumption | (simp; done)))) | (refine p_slice (r := t.Rows.drop (k + 1)) (1) ((t.Rows.drop k).length) ?_ ?_ ?_ ?_ ?_ (h := ?_); (focus (first | rfl | (simp only [Option.getD_some, Option.getD_none, List.length_map]; omega))); (focus (first | rfl | (simp only [Option.getD_some, Option.getD_none, List.length_map]; omega))); (focus omega); (focus omega); (focus (first | with_reducible rfl | assumption | (simp; done)))) | (refine s_slice_str (r := t.Rows.drop (k + 1)) (1) ((t.Rows.drop k).length) ?_ ?_ ?_ ?_ ?_ (h := ?_); (focus (first | rfl | (simp only [Option.getD_some, Option.getD_none, List.length_map]; omega))); (focus (first | rfl | (simp only [Option.getD_some, Option.getD_none, List.length_map]; omega))); (focus omega); (focus omega); (focus (first | with_reducible rfl | assumption | (simp; done)))) | (refine p_slice_str (r := t.Rows.drop (k + 1)) (1) ((t.Rows.drop k).length) ?_ ?_ ?_ ?_ ?_ (h := ?_); (focus (first | rfl | (simp only [Option.getD_some, Option.getD_none, List.length_map]; omega))); (focus (first | rfl | (simp only [Option.getD_some, Option.getD_none, List.length_map]; omega))); (focus omega); (focus omega); (focus (first | with_reducible rfl | assumption | (simp; done)))) | (refine s_sliceO (r := t.Rows.drop (k + 1)) (1) ((t.Rows.drop k).length) ?_ ?_ ?_ ?_ ?_ (h := ?_); (focus (first | rfl | (simp only [Option.getD_some, Option.getD_none, List.length_map]; omega))); (focus (first | rfl | (simp only [Option.getD_some, Option.getD_none, List.length_map]; omega))); (focus omega); (focus omega); (focus (first | with_reducible rfl | assumption | (simp; done)))) | (refine s_sliceM (r := t.Rows.drop (k + 1)) (1) ((t.Rows.drop k).length) ?_ ?_ ?_ ?_ ?_ (h := ?_); (focus (first | rfl | (simp only [Option.getD_some, Option.getD_none, List.length_map]; omega))); (focus (first | rfl | (simp only [Option.getD_some, Option.getD_none, List.length_map]; omega))); (focus omega); (focus omega); (focus (first | with_reducible rfl | assumption | (simp; done)))) | (refine go_ ?_; ((repeat' first | exact True.intro | refine Two.mk ?_ ?_); all_goals intros)) | fail "")
    all_goals (refine ⟨k + 1, ?_, ?_, ?_⟩; rotate_left 2; (exact lessA_); (focus (omega)); (focus (exact ⟨hkn, by rw [← hst]; exact hf⟩)))
theorem youngest_fn (l : List DField) (room : Int) (hw : ∀ y, y ∈ l → wfField y) (hl : l.length * 32 ≤ 140737488355328) (ho : ∀ f ∈ l, fldOk f) (hr : 0 ≤ room) (hr2 : room ≤ 1000000) : Fn Try.prog 148 [.ro (l.map encField), .lit (.int .i64 room)] (.ro ((fitL room l).map encField)) := by
  have hl3 : l.length ≤ 1000000000000000 := by omega
  refine fn_of_run (by kernel_rfl) Try.func148 rfl (by kernel_rfl) ?_
  (repeat' first | (refine go_ ?_; ((repeat' first | exact True.intro | refine Two.mk ?_ ?_); all_goals intros)) | fail "")
  refine r_for (fun j : Nat => ⟨[(0, .ro (l.map encField)), (1, .lit (.int .i64 room)), (6, .lit (.int .i64 ((j : Int) - 1))), (5, .own 0)], [(0, some (.row 113 2 ((l.drop j).map encField)))], 1, Try.f148.ntmps⟩)
    (fun j => j ≤ l.length ∧ (fSum (l.drop j) : Int) ≤ room) (fun j => j) l.length ⟨Nat.le_refl _, by rw [List.drop_length]; simpa [fSum] using hr⟩ ((less_own (n := 0) (t := 5) 113 2 rfl rfl rfl).trans ?_) ?_
  · rw [List.drop_length]; exact less_to
  rintro j ⟨hj, hs⟩
  have hd : (l.drop j).length = l.length - j := List.length_drop ..
  by_cases hj0 : 0 < j
  · have hw1 := weight_fn (l.drop j) (fun y hy => hw y (List.mem_of_mem_drop hy)) (by omega)
    rw [fits_all ho hl3 j] at hw1
    have hdc := drop_cons (l := l) (k := j - 1) (by omega)
    rw [Nat.sub_add_cancel hj0] at hdc
    have hm := getD_mem (l := l) (k := j - 1) (by omega)
    have hw2 := weight_fn [l.getD (j - 1) default] (fun y hy => by rw [List.mem_singleton.1 hy]; exact hw _ hm) (by simp)
    have ho1 := ho _ hm
    have hf1 : fSum [l.getD (j - 1) default] ≤ 92 := by have := fSum_ok (l := [l.getD (j - 1) default]) (fun f hf => by rw [List.mem_singleton.1 hf]; exact ho1); simpa using this
    rw [wSum_all (by omega)] at hw2
    have hsum : fSum (l.drop (j - 1)) = fSum [l.getD (j - 1) default] + fSum (l.drop j) := by rw [hdc, ← List.singleton_append, fSum_app]
    have hsl : (l.take (j - 1 + 1)).drop (j - 1) = [l.getD (j - 1) default] := by
      rw [List.drop_take, show j - 1 + 1 - (j - 1) = 1 by omega, hdc]; rfl
    (repeat' first | (refine s_slice (r := [l.getD (j - 1) default]) (j - 1) (j - 1 + 1) ?_ ?_ ?_ ?_ ?_ (h := ?_); (focus (first | rfl | (simp only [Option.getD_some, Option.getD_none, List.length_map]; omega))); (focus (first | rfl | (simp only [Option.getD_some, Option.getD_none, List.length_map]; omega))); (focus omega); (focus omega); (focus (first | with_reducible rfl | assumption | (simp; done)))) | (refine p_slice (r := [l.getD (j - 1) default]) (j - 1) (j - 1 + 1) ?_ ?_ ?_ ?_ ?_ (h := ?_); (focus (first | rfl | (simp only [Option.getD_some, Option.getD_none, List.length_map]; omega))); (focus (first | rfl | (simp only [Option.getD_some, Option.getD_none, List.length_map]; omega))); (focus omega); (focus omega); (focus (first | with_reducible rfl | assumption | (simp; done)))) | (refine s_slice_str (r := [l.getD (j - 1) default]) (j - 1) (j - 1 + 1) ?_ ?_ ?_ ?_ ?_ (h := ?_); (focus (first | rfl | (simp only [Option.getD_some, Option.getD_none, List.length_map]; omega))); (focus (first | rfl | (simp only [Option.getD_some, Option.getD_none, List.length_map]; omega))); (focus omega); (focus omega); (focus (first | with_reducible rfl | assumption | (simp; done)))) | (refine p_slice_str (r := [l.getD (j - 1) default]) (j - 1) (j - 1 + 1) ?_ ?_ ?_ ?_ ?_ (h := ?_); (focus (first | rfl | (simp only [Option.getD_some, Option.getD_none, List.length_map]; omega))); (focus (first | rfl | (simp only [Option.getD_some, Option.getD_none, List.length_map]; omega))); (focus omega); (focus omega); (focus (first | with_reducible rfl | assumption | (simp; done)))) | (refine s_sliceO (r := [l.getD (j - 1) default]) (j - 1) (j - 1 + 1) ?_ ?_ ?_ ?_ ?_ (h := ?_); (focus (first | rfl | (simp only [Option.getD_some, Option.getD_none, List.length_map]; omega))); (focus (first | rfl | (simp only [Option.getD_some, Option.getD_none, List.length_map]; omega))); (focus omega); (focus omega); (focus (first | with_reducible rfl | assumption | (simp; done)))) | (refine s_sliceM (r := [l.getD (j - 1) default]) (j - 1) (j - 1 + 1) ?_ ?_ ?_ ?_ ?_ (h := ?_); (focus (first | rfl | (simp only [Option.getD_some, Option.getD_none, List.length_map]; omega))); (focus (first | rfl | (simp only [Option.getD_some, Option.getD_none, List.length_map]; omega))); (focus omega); (focus omega); (focus (first | with_reducible rfl | assumption | (simp; done)))) | (refine s_snap (hw1) (h := ?_)) | (refine p_snapO (hw1) (h := ?_)) | (refine s_call (hw2) (h := ?_)) | (refine p_call (hw2) (h := ?_)) | refine s_row (l' := [encField (l.getD (j - 1) default)]) (h := ?_) | (refine s_app (r := (l.drop (j - 1)).map encField) ?_ ?_ ?_ ?_ (h := ?_); (focus (first | (rw [hdc]; rfl) | with_reducible rfl | with_reducible exact List.nil_append _ | with_reducible exact (List.map_append ..).symm | (rw [take_snoc (by assumption), List.map_append]; rfl) | (rw [List.map_append]; rfl) | (simp; done))); (focus (first | exact len_none | exact len_one rfl | exact len_two rfl rfl | exact len_enc (fun _ => rfl))); (focus ((conv => lhs; rhs; whnf); simp only [List.length_map, List.length_append, List.length_cons, List.length_nil, List.length_take]; omega)); (focus (simp only [List.length_map, List.length_append, List.length_cons, List.length_nil, List.length_take]; omega))) | (refine s_app0R (r := (l.drop (j - 1)).map encField) ?_ ?_ ?_ ?_ (h := ?_); (focus (first | (rw [hdc]; rfl) | with_reducible rfl | with_reducible exact List.nil_append _ | with_reducible exact (List.map_append ..).symm | (rw [take_snoc (by assumption), List.map_append]; rfl) | (rw [List.map_append]; rfl) | (simp; done))); (focus (first | exact len_none | exact len_one rfl | exact len_two rfl rfl | exact len_enc (fun _ => rfl))); (focus ((conv => lhs; rhs; whnf); simp only [List.length_map, List.length_append, List.length_cons, List.length_nil, List.length_take]; omega)); (focus (simp only [List.length_map, List.length_append, List.length_cons, List.length_nil, List.length_take]; omega))) | (refine p_app (r := (l.drop (j - 1)).map encField) ?_ ?_ ?_ ?_ (h := ?_); (focus (first | (rw [hdc]; rfl) | with_reducible rfl | with_reducible exact List.nil_append _ | with_reducible exact (List.map_append ..).symm | (rw [take_snoc (by assumption), List.map_append]; rfl) | (rw [List.map_append]; rfl) | (simp; done))); (focus (first | exact len_none | exact len_one rfl | exact len_two rfl rfl | exact len_enc (fun _ => rfl))); (focus ((conv => lhs; rhs; whnf); simp only [List.length_map, List.length_append, List.length_cons, List.length_nil, List.length_take]; omega)); (focus (simp only [List.length_map, List.length_append, List.length_cons, List.length_nil, List.length_take]; omega))) | (refine p_app0R (r := (l.drop (j - 1)).map encField) ?_ ?_ ?_ ?_ (h := ?_); (focus (first | (rw [hdc]; rfl) | with_reducible rfl | with_reducible exact List.nil_append _ | with_reducible exact (List.map_append ..).symm | (rw [take_snoc (by assumption), List.map_append]; rfl) | (rw [List.map_append]; rfl) | (simp; done))); (focus (first | exact len_none | exact len_one rfl | exact len_two rfl rfl | exact len_enc (fun _ => rfl))); (focus ((conv => lhs; rhs; whnf); simp only [List.length_map, List.length_append, List.length_cons, List.length_nil, List.length_take]; omega)); (focus (simp only [List.length_map, List.length_append, List.length_cons, List.length_nil, List.length_take]; omega))) | (refine goI_ ?_; ((repeat' first | exact True.intro | refine Two.mk ?_ ?_); all_goals intros)) | refine s_i (h := ?_) | refine s_i (hq := q_index_ro rfl rfl rfl (by first | exact lit0 | exact lit1 | exact lit2 | exact lit3 | rfl) (by simp only [List.length_cons, List.length_nil]; omega) rfl rfl rfl rfl) (h := ?_) | refine p_i (h := ?_) | refine p_ih (h := ?_) | refine s_lit (h := ?_) | refine p_lit (h := ?_) | refine p_lit0 (h := ?_) | refine s_lit0 (h := ?_) | refine s_ixa (h := ?_) | refine s_insert (h := ?_) | (refine s_sadd rfl ?_ (h := ?_); (focus (first | omega | (simp only [List.length_append, List.length_map, List.length_cons, List.length_nil, List.length_take, List.length_drop]; omega)))) | (refine p_sadd rfl ?_ (h := ?_); (focus (first | omega | (simp only [List.length_append, List.length_map, List.length_cons, List.length_nil, List.length_take, List.length_drop]; omega)))) | fail "")
    all_goals first
      | (refine ⟨j - 1, ?_, ?_, ?_⟩; rotate_left 2; (exact lessA_); (focus (omega)); (focus (exact ⟨by omega, by omega⟩)))
      | (refine ends_ (hr := ?_); rw [fitL_drop hj hs (.inr (by omega))])
  · have hj0 : j = 0 := by omega
    subst hj0
    (repeat' first | (refine go_ ?_; ((repeat' first | exact True.intro | refine Two.mk ?_ ?_); all_goals intros)) | fail "")
    all_goals (refine ends_ (hr := ?_); rw [show fitL room l = l from fitL_ok hs]; rfl)
end Go.Proofs.Ythpophgcmgdpjaa
