/-
  Tables of fields: their size and their check, and the reference's: what each answers. No condition.
-/
import Derived.Test.YthpophgcmgdpjaaGo
import Derived.Test.YthpophgcmgdpjaaSeq
import Derived.Test.YthpophgcmgdpjaaUpTo
import Derived.Test.YthpophgcmgdpjaaProg
set_option linter.unusedVariables false
set_option linter.unusedSimpArgs false
set_option linter.unusedVariables false
namespace Go.Proofs.Ythpophgcmgdpjaa
set_option maxRecDepth 100000
attribute [local irreducible] Run RunL QStep GStep Fn Less PL FnM

def fLen (f : DField) : Nat := f.Name.length + f.Value.length + 32
def fSum : List DField → Nat
  | [] => 0
  | f :: l => fLen f + fSum l
theorem fSum_app : ∀ (l m : List DField), fSum (l ++ m) = fSum l + fSum m
  | [], m => by simp [fSum]
  | f :: l, m => by simp only [List.cons_append, fSum, fSum_app l m]; omega
theorem fSum_drop_le : ∀ (l : List DField) (k : Nat), fSum (l.drop k) ≤ fSum l
  | [], k => by simp
  | f :: l, 0 => Nat.le_refl _
  | f :: l, k + 1 => by have := fSum_drop_le l k; simp only [List.drop_succ_cons, fSum]; omega
/-- as the machine adds -/
def wStep (a : Int) (f : DField) : Int := IntKind.i64.wrap (a + fLen f)
def wSum (l : List DField) (k : Nat) : Int := (l.take k).foldl wStep 0
theorem wSum_snoc {l : List DField} {k : Nat} (h : k < l.length) : wSum l (k + 1) = wStep (wSum l k) (l.getD k default) := by
  unfold wSum; rw [take_snoc h, List.foldl_append]; rfl
theorem wrap_id {x : Int} (h1 : -9223372036854775808 ≤ x) (h2 : x ≤ 9223372036854775807) : IntKind.i64.wrap x = x := by rw [IntKind.wrap_i64]; omega
theorem wFold_sum : ∀ (l : List DField) (a : Nat), a + fSum l ≤ 9223372036854775807 → l.foldl wStep (a : Int) = ((a + fSum l : Nat) : Int)
  | [], a, _ => by simp [fSum]
  | f :: l, a, h => by
    simp only [fSum] at h
    rw [List.foldl_cons]
    have : wStep (a : Int) f = ((a + fLen f : Nat) : Int) := by unfold wStep; rw [wrap_id (by omega) (by omega)]; omega
    rw [this, wFold_sum l _ (by omega)]
    simp only [fSum]; omega
theorem wSum_all {l : List DField} (h : fSum l ≤ 9223372036854775807) : wSum l l.length = (fSum l : Int) := by
  unfold wSum
  rw [List.take_length]
  have := wFold_sum l 0 (by omega)
  rw [Nat.zero_add] at this
  exact this
def fldOk (f : DField) : Prop := 1 ≤ f.Name.length ∧ f.Name.length ≤ 20 ∧ f.Value.length ≤ 40
instance (f : DField) : Decidable (fldOk f) := inferInstanceAs (Decidable (_ ∧ _))
theorem fSum_ok : ∀ {l : List DField}, (∀ f ∈ l, fldOk f) → fSum l ≤ 92 * l.length
  | [], _ => by simp [fSum]
  | f :: l, h => by
    have h1 := h f (List.mem_cons_self ..)
    have h2 := fSum_ok (l := l) (fun g hg => h g (List.mem_cons_of_mem _ hg))
    unfold fldOk at h1
    simp only [fSum, fLen, List.length_cons]; omega
theorem allTo_mem {l : List DField} : AllTo (fun i => fldOk (l.getD i default)) l.length ↔ ∀ f ∈ l, fldOk f := by
  constructor
  · intro h f hf
    obtain ⟨i, hi, rfl⟩ := List.mem_iff_getElem.1 hf
    have := h i hi
    dsimp only at this
    rw [List.getD_eq_getElem?_getD, List.getElem?_eq_getElem hi] at this
    exact this
  · intro h i hi
    exact h _ (getD_mem hi)
def tabOk (t : DTable) : Prop := (0 ≤ t.Room ∧ t.Room ≤ 160 ∧ t.Rows.length ≤ t.Put ∧ t.Put ≤ 4611686018427387903) ∧ (∀ f ∈ t.Rows, fldOk f) ∧ (fSum t.Rows : Int) ≤ t.Room
open Classical in
/-- P14.2 -/
noncomputable def tabFlt (t : DTable) : Int := if tabOk t then 0 else 9
theorem tabFlt_cases (t : DTable) : (tabFlt t = 0 ∧ tabOk t) ∨ (tabFlt t = 9 ∧ ¬ tabOk t) := by
  unfold tabFlt
  by_cases h : tabOk t
  · exact .inl ⟨if_pos h, h⟩
  · exact .inr ⟨if_neg h, h⟩
theorem tabFlt_t {t : DTable} (h : tabOk t) : tabFlt t = 0 := if_pos h
theorem tabFlt_f {t : DTable} (h : ¬ tabOk t) : tabFlt t = 9 := if_neg h

theorem size_fn (f : DField) (hw : wfField f) : Fn Try.prog 69 [.agg (encField f)] (.lit (.int .i64 (fLen f))) := by
  unfold wfField at hw
  refine fn_of_run (by kernel_rfl) Try.func69 rfl (by kernel_rfl) ?_
  (repeat' first | (refine go_ ?_; ((repeat' first | exact True.intro | refine Two.mk ?_ ?_); all_goals intros)) | fail "")
  all_goals (refine ends_ (hr := ?_); unfold fLen; simp)
theorem field_fn (f : DField) (hw : wfField f) : Fn Try.prog 137 [.agg (encField f)] (.lit (.bool (decide (fldOk f)))) := by
  unfold wfField at hw
  refine fn_of_run (by kernel_rfl) Try.func137 rfl (by kernel_rfl) ?_
  (repeat' first | (refine go_ ?_; ((repeat' first | exact True.intro | refine Two.mk ?_ ?_); all_goals intros)) | fail "")
  all_goals (refine ends_ (hr := ?_))
  all_goals first
    | rw [decide_eq_true (by unfold fldOk; omega)]
    | rw [decide_eq_false (by unfold fldOk; omega)]
theorem isField_fn (f : DField) (hw : wfField f) : Fn Try.prog 73 [.agg (encField f)] (.lit (.bool (decide (fldOk f)))) := by
  unfold wfField at hw
  refine fn_of_run (by kernel_rfl) Try.func73 rfl (by kernel_rfl) ?_
  (repeat' first | (refine s_dec (upTo_fn _ _) (ht := ?_) (hff := ?_) <;> intro _ <;> try (exfalso; omega)) | (refine p_dec (upTo_fn _ _) (ht := ?_) (hff := ?_) <;> intro _ <;> try (exfalso; omega)) | (refine go_ ?_; ((repeat' first | exact True.intro | refine Two.mk ?_ ?_); all_goals intros)) | fail "")
  all_goals (refine ends_ (hr := ?_))
  all_goals first
    | rw [decide_eq_true (by unfold fldOk; omega)]
    | rw [decide_eq_false (by unfold fldOk; omega)]
theorem sizes_fn (l : List DField) (hw : ∀ y, y ∈ l → wfField y) (hl : l.length * 32 ≤ 140737488355328) : Fn Try.prog 138 [.ro (l.map encField)] (.lit (.int .i64 (wSum l l.length))) := by
  refine fn_of_run (by kernel_rfl) Try.func138 rfl (by kernel_rfl) ?_
  (repeat' first | (refine go_ ?_; ((repeat' first | exact True.intro | refine Two.mk ?_ ?_); all_goals intros)) | fail "")
  refine r_for (fun k : Nat => ⟨[(6, .ro (l.map encField)), (7, .lit (.int .i64 l.length)), (8, .lit (.int .i64 k)), (3, .lit (.int .i64 (wSum l k)))], [], 0, Try.f138.ntmps⟩)
    (fun k => k ≤ l.length) (fun k => l.length - k) 0 (Nat.zero_le _) less_to ?_
  intro k hk
  by_cases hkn : k < l.length
  · have hwk := hw _ (getD_mem hkn)
    have e := wSum_snoc hkn
    unfold wStep at e
    (repeat' first | (refine s_call (size_fn _ hwk) (h := ?_)) | (refine p_call (size_fn _ hwk) (h := ?_)) | (refine go_ ?_; ((repeat' first | exact True.intro | refine Two.mk ?_ ?_); all_goals intros)) | fail "")
    all_goals (refine ⟨k + 1, ?_, ?_, ?_⟩; rotate_left 2; (exact lessA_); (focus (omega)); (focus (exact hkn)))
  · have hkl : k = l.length := by omega
    subst hkl
    (repeat' first | (refine go_ ?_; ((repeat' first | exact True.intro | refine Two.mk ?_ ?_); all_goals intros)) | fail "")
    all_goals exact ends_ (hr := rfl)
theorem weight_fn (l : List DField) (hw : ∀ y, y ∈ l → wfField y) (hl : l.length * 32 ≤ 140737488355328) : Fn Try.prog 76 [.ro (l.map encField)] (.lit (.int .i64 (wSum l l.length))) := by
  refine fn_of_run (by kernel_rfl) Try.func76 rfl (by kernel_rfl) ?_
  (repeat' first | (refine go_ ?_; ((repeat' first | exact True.intro | refine Two.mk ?_ ?_); all_goals intros)) | fail "")
  refine r_for (fun k : Nat => ⟨[(6, .ro (l.map encField)), (7, .lit (.int .i64 l.length)), (8, .lit (.int .i64 k)), (3, .lit (.int .i64 (wSum l k)))], [], 0, Try.f76.ntmps⟩)
    (fun k => k ≤ l.length) (fun k => l.length - k) 0 (Nat.zero_le _) less_to ?_
  intro k hk
  by_cases hkn : k < l.length
  · have hwk := hw _ (getD_mem hkn)
    unfold wfField at hwk
    have e := wSum_snoc hkn
    unfold wStep fLen at e
    have e2 : wSum l (k + 1) = IntKind.i64.wrap (wSum l k + ((l.getD k default).Name.length + (l.getD k default).Value.length + 32)) := by rw [e]; simp
    (repeat' first | (refine go_ ?_; ((repeat' first | exact True.intro | refine Two.mk ?_ ?_); all_goals intros)) | fail "")
    all_goals (refine ⟨k + 1, ?_, ?_, ?_⟩; rotate_left 2; (exact lessA_); (focus (omega)); (focus (exact hkn)))
  · have hkl : k = l.length := by omega
    subst hkl
    (repeat' first | (refine go_ ?_; ((repeat' first | exact True.intro | refine Two.mk ?_ ?_); all_goals intros)) | fail "")
    all_goals exact ends_ (hr := rfl)
def tabHead (t : DTable) : Prop := 0 ≤ t.Room ∧ t.Room ≤ 160 ∧ t.Rows.length ≤ t.Put ∧ t.Put ≤ 4611686018427387903
set_option maxHeartbeats 1000000 in
theorem tabCheck_fn (t : DTable) (hw : wfTable t) : Fn Try.prog 59 [.agg (encTable t)] (.lit (.int .i64 (tabFlt t))) := by
  have hl : t.Rows.length ≤ 1000000000000000 := by have := hw.2.2.1; omega
  have h1 := sizes_fn t.Rows hw.2.2.2 (by have := hw.2.2.1; omega)
  refine fn_of_run (by kernel_rfl) Try.func59 rfl (by kernel_rfl) ?_
  refine r_seq ?_
  refine r_region ?_
  (repeat' first | (refine goS_ ?_; ((repeat' first | exact True.intro | refine Two.mk ?_ ?_); all_goals intros)) | fail "")
  refine thenQ_n ?_
  refine r_cut (fun ok : Bool => ⟨[(1, .ptr 0 0 0 0), (2, .lit (.int .i64 0)), (3, .lit (.bool ok))], [(0, some (.box 24 (encTable t)))], 1, Try.f59.ntmps⟩) (fun ok => ok = true ↔ tabHead t) ?_ ?_
  · (repeat' first | (refine go_ ?_; ((repeat' first | exact True.intro | refine Two.mk ?_ ?_); all_goals intros)) | fail "")
    all_goals first
      | (refine ⟨true, ?_, ?_⟩; rotate_left 1; (exact lessA_); (focus (exact ⟨fun _ => (by unfold tabHead; omega), fun _ => rfl⟩)))
      | (refine ⟨false, ?_, ?_⟩; rotate_left 1; (exact lessA_); (focus (exact ⟨(fun h => by cases h), fun h => (by unfold tabHead at h; omega)⟩)))
  rintro ok hok
  (repeat' first | (refine go_ ?_; ((repeat' first | exact True.intro | refine Two.mk ?_ ?_); all_goals intros)) | fail "")
  refine r_for (fun x : Nat × Bool => ⟨[(1, .ptr 0 0 0 0), (2, .lit (.int .i64 0)), (3, .lit (.bool x.2)), (28, .ro (t.Rows.map encField)), (29, .lit (.int .i64 t.Rows.length)), (30, .lit (.int .i64 x.1))], [(0, some (.box 24 (encTable t)))], 1, Try.f59.ntmps⟩)
      (fun x => x.1 ≤ t.Rows.length ∧ (x.2 = true ↔ tabHead t ∧ AllTo (fun i => fldOk (t.Rows.getD i default)) x.1)) (fun x => t.Rows.length - x.1) (0, ok) ⟨Nat.zero_le _, by rw [hok]; exact ⟨fun h => ⟨h, allTo0⟩, fun h => h.1⟩⟩ less_to ?_
  rintro ⟨k, ok⟩ ⟨hk, hi⟩
  dsimp only at hk hi ⊢
  by_cases hkn : k < t.Rows.length
  · cases ok
    · have hi : ¬ (tabHead t ∧ AllTo (fun i => fldOk (t.Rows.getD i default)) k) := fun h => by have := hi.2 h; cases this
      (repeat' first | (refine go_ ?_; ((repeat' first | exact True.intro | refine Two.mk ?_ ?_); all_goals intros)) | fail "")
      all_goals (refine ⟨(k + 1, false), ?_, ?_, ?_⟩; rotate_left 2; (exact lessA_); (focus (dsimp only; omega)); (focus (exact ⟨hkn, (fun h => by cases h), fun h => absurd ⟨h.1, (allTo_succ.1 h.2).1⟩ hi⟩)))
    · obtain ⟨hh, ha⟩ := hi.1 rfl
      (repeat' first | (refine s_dec (field_fn _ (hw.2.2.2 _ (getD_mem hkn))) (ht := ?_) (hff := ?_) <;> intro _ <;> try (exfalso; omega)) | (refine p_dec (field_fn _ (hw.2.2.2 _ (getD_mem hkn))) (ht := ?_) (hff := ?_) <;> intro _ <;> try (exfalso; omega)) | (refine go_ ?_; ((repeat' first | exact True.intro | refine Two.mk ?_ ?_); all_goals intros)) | fail "")
      all_goals first
        | (refine ⟨(k + 1, true), ?_, ?_, ?_⟩; rotate_left 2; (exact lessA_); (focus (dsimp only; omega)); (focus (exact ⟨hkn, fun _ => ⟨hh, allTo_succ.2 ⟨ha, by assumption⟩⟩, fun _ => rfl⟩)))
        | (refine ⟨(k + 1, false), ?_, ?_, ?_⟩; rotate_left 2; (exact lessA_); (focus (dsimp only; omega)); (focus (exact ⟨hkn, (fun h => by cases h), fun h => absurd (allTo_succ.1 h.2).2 (by assumption)⟩)))
  · have hkl : k = t.Rows.length := by omega
    subst hkl
    rw [allTo_mem] at hi
    cases ok
    · have hi : ¬ tabOk t := fun h => by have := hi.2 ⟨h.1, h.2.1⟩; cases this
      (repeat' first | (refine go_ ?_; ((repeat' first | exact True.intro | refine Two.mk ?_ ?_); all_goals intros)) | fail "")
      all_goals exact ends_ (hr := by rw [tabFlt_f hi])
    · obtain ⟨hh, ha⟩ := hi.1 rfl
      have hs := fSum_ok ha
      rw [wSum_all (by omega)] at h1
      (repeat' first | (refine s_call (h1) (h := ?_)) | (refine p_call (h1) (h := ?_)) | (refine go_ ?_; ((repeat' first | exact True.intro | refine Two.mk ?_ ?_); all_goals intros)) | fail "")
      all_goals first
        | exact ends_ (hr := by rw [tabFlt_t ⟨hh, ha, by omega⟩])
        | exact ends_ (hr := by rw [tabFlt_f (fun h => by have := h.2.2; omega)])
set_option maxHeartbeats 1000000 in
theorem tabFault_fn (t : DTable) (hw : wfTable t) : Fn Try.prog 62 [.agg (encTable t)] (.lit (.int .i64 (tabFlt t))) := by
  have hl : t.Rows.length ≤ 1000000000000000 := by have := hw.2.2.1; omega
  have h1 := weight_fn t.Rows hw.2.2.2 (by have := hw.2.2.1; omega)
  refine fn_of_run (by kernel_rfl) Try.func62 rfl (by kernel_rfl) ?_
  refine r_seq ?_
  refine r_region ?_
  (repeat' first | (refine goS_ ?_; ((repeat' first | exact True.intro | refine Two.mk ?_ ?_); all_goals intros)) | fail "")
  refine thenQ_n ?_
  refine r_cut (fun ok : Bool => ⟨[(1, .ptr 0 0 0 0), (2, .lit (.int .i64 0)), (3, .lit (.bool ok))], [(0, some (.box 24 (encTable t)))], 1, Try.f62.ntmps⟩) (fun ok => ok = true ↔ tabHead t ∧ wSum t.Rows t.Rows.length ≤ t.Room) ?_ ?_
  · (repeat' first | (refine s_dec (upTo_fn _ _) (ht := ?_) (hff := ?_) <;> intro _ <;> try (exfalso; omega)) | (refine p_dec (upTo_fn _ _) (ht := ?_) (hff := ?_) <;> intro _ <;> try (exfalso; omega)) | (refine s_call (h1) (h := ?_)) | (refine p_call (h1) (h := ?_)) | (refine go_ ?_; ((repeat' first | exact True.intro | refine Two.mk ?_ ?_); all_goals intros)) | fail "")
    all_goals first
      | (refine ⟨true, ?_, ?_⟩; rotate_left 1; (exact lessA_); (focus (exact ⟨fun _ => (by unfold tabHead; omega), fun _ => rfl⟩)))
      | (refine ⟨false, ?_, ?_⟩; rotate_left 1; (exact lessA_); (focus (exact ⟨(fun h => by cases h), fun h => (by unfold tabHead at h; omega)⟩)))
  rintro ok hok
  (repeat' first | (refine go_ ?_; ((repeat' first | exact True.intro | refine Two.mk ?_ ?_); all_goals intros)) | fail "")
  refine r_for (fun x : Nat × Bool => ⟨[(1, .ptr 0 0 0 0), (2, .lit (.int .i64 0)), (3, .lit (.bool x.2)), (31, .ro (t.Rows.map encField)), (32, .lit (.int .i64 t.Rows.length)), (33, .lit (.int .i64 x.1))], [(0, some (.box 24 (encTable t)))], 1, Try.f62.ntmps⟩)
      (fun x => x.1 ≤ t.Rows.length ∧ (x.2 = true ↔ (tabHead t ∧ wSum t.Rows t.Rows.length ≤ t.Room) ∧ AllTo (fun i => fldOk (t.Rows.getD i default)) x.1)) (fun x => t.Rows.length - x.1) (0, ok) ⟨Nat.zero_le _, by rw [hok]; exact ⟨fun h => ⟨h, allTo0⟩, fun h => h.1⟩⟩ less_to ?_
  rintro ⟨k, ok⟩ ⟨hk, hi⟩
  dsimp only at hk hi ⊢
  by_cases hkn : k < t.Rows.length
  · cases ok
    · have hi : ¬ ((tabHead t ∧ wSum t.Rows t.Rows.length ≤ t.Room) ∧ AllTo (fun i => fldOk (t.Rows.getD i default)) k) := fun h => by have := hi.2 h; cases this
      (repeat' first | (refine go_ ?_; ((repeat' first | exact True.intro | refine Two.mk ?_ ?_); all_goals intros)) | fail "")
      all_goals (refine ⟨(k + 1, false), ?_, ?_, ?_⟩; rotate_left 2; (exact lessA_); (focus (dsimp only; omega)); (focus (exact ⟨hkn, (fun h => by cases h), fun h => absurd ⟨h.1, (allTo_succ.1 h.2).1⟩ hi⟩)))
    · obtain ⟨hh, ha⟩ := hi.1 rfl
      (repeat' first | (refine s_dec (isField_fn _ (hw.2.2.2 _ (getD_mem hkn))) (ht := ?_) (hff := ?_) <;> intro _ <;> try (exfalso; omega)) | (refine p_dec (isField_fn _ (hw.2.2.2 _ (getD_mem hkn))) (ht := ?_) (hff := ?_) <;> intro _ <;> try (exfalso; omega)) | (refine go_ ?_; ((repeat' first | exact True.intro | refine Two.mk ?_ ?_); all_goals intros)) | fail "")
      all_goals first
        | (refine ⟨(k + 1, true), ?_, ?_, ?_⟩; rotate_left 2; (exact lessA_); (focus (dsimp only; omega)); (focus (exact ⟨hkn, fun _ => ⟨hh, allTo_succ.2 ⟨ha, by assumption⟩⟩, fun _ => rfl⟩)))
        | (refine ⟨(k + 1, false), ?_, ?_, ?_⟩; rotate_left 2; (exact lessA_); (focus (dsimp only; omega)); (focus (exact ⟨hkn, (fun h => by cases h), fun h => absurd (allTo_succ.1 h.2).2 (by assumption)⟩)))
  · have hkl : k = t.Rows.length := by omega
    subst hkl
    rw [allTo_mem] at hi
    cases ok
    · have hi : ¬ tabOk t := fun h => by
        have hs := fSum_ok h.2.1
        have := hi.2 ⟨⟨h.1, by rw [wSum_all (by omega)]; exact h.2.2⟩, h.2.1⟩
        cases this
      (repeat' first | (refine go_ ?_; ((repeat' first | exact True.intro | refine Two.mk ?_ ?_); all_goals intros)) | fail "")
      all_goals exact ends_ (hr := by rw [tabFlt_f hi])
    · obtain ⟨⟨hh, hs2⟩, ha⟩ := hi.1 rfl
      have hs := fSum_ok ha
      rw [wSum_all (by omega)] at hs2
      (repeat' first | (refine go_ ?_; ((repeat' first | exact True.intro | refine Two.mk ?_ ?_); all_goals intros)) | fail "")
      all_goals exact ends_ (hr := by rw [tabFlt_t ⟨hh, ha, hs2⟩])
end Go.Proofs.Ythpophgcmgdpjaa
