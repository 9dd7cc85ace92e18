/-
  table.Get and table.Find, and the reference's: what each answers. No condition.
-/
import Derived.Test.YthpophgcmgdpjaaGo
import Derived.Test.YthpophgcmgdpjaaTab
set_option linter.unusedVariables false
set_option linter.unusedSimpArgs false
set_option linter.unusedVariables false
namespace Go.Proofs.Ythpophgcmgdpjaa
set_option maxRecDepth 100000
attribute [local irreducible] Run RunL QStep GStep Fn Less PL FnM

/-- P14.5 -/
noncomputable def tabGet (t : DTable) (n : Int) : DField × Int := if tabFlt t ≠ 0 then (⟨[], []⟩, tabFlt t) else if n < 0 ∨ t.Put ≤ n then (⟨[], []⟩, 5) else if n < t.Put - t.Rows.length then (⟨[], []⟩, 16) else (t.Rows.getD (n - (t.Put - t.Rows.length)).toNat default, 0)
theorem emptyS : ByteArray.empty = strB [] := rfl
theorem get_fn (t : DTable) (n : Int) (hw : wfTable t) : Fn Try.prog 142 [.agg (encTable t), .lit (.int .i64 n)] (.tup [.agg (encField (tabGet t n).1), .lit (.int .i64 (tabGet t n).2)]) := by
  have h1 := tabCheck_fn t hw
  unfold tabGet
  rcases tabFlt_cases t with ⟨h0, ho⟩ | ⟨h0, ho⟩
  · rw [h0] at h1 ⊢
    rw [if_neg (by omega)]
    have hh := ho.1
    by_cases c1 : n < 0 ∨ t.Put ≤ n
    · rw [if_pos c1]
      refine fn_of_run (by kernel_rfl) Try.func142 rfl (by kernel_rfl) ?_
      (repeat' first | (refine s_call (h1) (h := ?_)) | (refine p_call (h1) (h := ?_)) | (refine go_ ?_; ((repeat' first | exact True.intro | refine Two.mk ?_ ?_); all_goals intros)) | fail "")
      all_goals (exact endwA_)
    · rw [if_neg c1]
      by_cases c2 : n < t.Put - t.Rows.length
      · rw [if_pos c2]
        refine fn_of_run (by kernel_rfl) Try.func142 rfl (by kernel_rfl) ?_
        (repeat' first | (refine s_call (h1) (h := ?_)) | (refine p_call (h1) (h := ?_)) | (refine go_ ?_; ((repeat' first | exact True.intro | refine Two.mk ?_ ?_); all_goals intros)) | fail "")
        all_goals (exact endwA_)
      · rw [if_neg c2]
        refine fn_of_run (by kernel_rfl) Try.func142 rfl (by kernel_rfl) ?_
        (repeat' first | (refine s_call (h1) (h := ?_)) | (refine p_call (h1) (h := ?_)) | refine s_i (hq := q_index_ro (n := (n - (t.Put - t.Rows.length)).toNat) rfl rfl rfl (by omega) (by simp only [List.length_map]; omega) rfl rfl rfl (eAt_map _ (by omega))) (h := ?_) | (refine goI_ ?_; ((repeat' first | exact True.intro | refine Two.mk ?_ ?_); all_goals intros)) | refine s_i (h := ?_) | refine s_i (hq := q_index_ro rfl rfl rfl (by first | exact lit0 | exact lit1 | exact lit2 | exact lit3 | rfl) (by simp only [List.length_cons, List.length_nil]; omega) rfl rfl rfl rfl) (h := ?_) | refine p_i (h := ?_) | refine p_ih (h := ?_) | refine s_lit (h := ?_) | refine p_lit (h := ?_) | refine p_lit0 (h := ?_) | refine s_lit0 (h := ?_) | refine s_ixa (h := ?_) | refine s_insert (h := ?_) | (refine s_sadd rfl ?_ (h := ?_); (focus (first | omega | (simp only [List.length_append, List.length_map, List.length_cons, List.length_nil, List.length_take, List.length_drop]; omega)))) | (refine p_sadd rfl ?_ (h := ?_); (focus (first | omega | (simp only [List.length_append, List.length_map, List.length_cons, List.length_nil, List.length_take, List.length_drop]; omega)))) | fail "")
        all_goals (exact endwA_)
  · rw [h0] at h1 ⊢
    rw [if_pos (by omega)]
    refine fn_of_run (by kernel_rfl) Try.func142 rfl (by kernel_rfl) ?_
    (repeat' first | (refine s_call (h1) (h := ?_)) | (refine p_call (h1) (h := ?_)) | (refine go_ ?_; ((repeat' first | exact True.intro | refine Two.mk ?_ ?_); all_goals intros)) | fail "")
    all_goals (exact endwA_)
theorem got_fn (t : DTable) (n : Int) (hw : wfTable t) : Fn Try.prog 145 [.agg (encTable t), .lit (.int .i64 n)] (.tup [.agg (encField (tabGet t n).1), .lit (.int .i64 (tabGet t n).2)]) := by
  have h1 := tabFault_fn t hw
  unfold tabGet
  rcases tabFlt_cases t with ⟨h0, ho⟩ | ⟨h0, ho⟩
  · rw [h0] at h1 ⊢
    rw [if_neg (by omega)]
    have hh := ho.1
    by_cases c1 : n < 0 ∨ t.Put ≤ n
    · rw [if_pos c1]
      refine fn_of_run (by kernel_rfl) Try.func145 rfl (by kernel_rfl) ?_
      (repeat' first | (refine s_call (h1) (h := ?_)) | (refine p_call (h1) (h := ?_)) | (refine s_dec (upTo_fn _ _) (ht := ?_) (hff := ?_) <;> intro _ <;> try (exfalso; omega)) | (refine p_dec (upTo_fn _ _) (ht := ?_) (hff := ?_) <;> intro _ <;> try (exfalso; omega)) | (refine go_ ?_; ((repeat' first | exact True.intro | refine Two.mk ?_ ?_); all_goals intros)) | fail "")
      all_goals (exact endwA_)
    · rw [if_neg c1]
      by_cases c2 : n < t.Put - t.Rows.length
      · rw [if_pos c2]
        refine fn_of_run (by kernel_rfl) Try.func145 rfl (by kernel_rfl) ?_
        (repeat' first | (refine s_call (h1) (h := ?_)) | (refine p_call (h1) (h := ?_)) | (refine s_dec (upTo_fn _ _) (ht := ?_) (hff := ?_) <;> intro _ <;> try (exfalso; omega)) | (refine p_dec (upTo_fn _ _) (ht := ?_) (hff := ?_) <;> intro _ <;> try (exfalso; omega)) | (refine go_ ?_; ((repeat' first | exact True.intro | refine Two.mk ?_ ?_); all_goals intros)) | fail "")
        all_goals (exact endwA_)
      · rw [if_neg c2]
        refine fn_of_run (by kernel_rfl) Try.func145 rfl (by kernel_rfl) ?_
        (repeat' first | (refine s_call (h1) (h := ?_)) | (refine p_call (h1) (h := ?_)) | (refine s_dec (upTo_fn _ _) (ht := ?_) (hff := ?_) <;> intro _ <;> try (exfalso; omega)) | (refine p_dec (upTo_fn _ _) (ht := ?_) (hff := ?_) <;> intro _ <;> try (exfalso; omega)) | refine s_i (hq := q_index_ro (n := (n - (t.Put - t.Rows.length)).toNat) rfl rfl rfl (by omega) (by simp only [List.length_map]; omega) rfl rfl rfl (eAt_map _ (by omega))) (h := ?_) | (refine goI_ ?_; ((repeat' first | exact True.intro | refine Two.mk ?_ ?_); all_goals intros)) | refine s_i (h := ?_) | refine s_i (hq := q_index_ro rfl rfl rfl (by first | exact lit0 | exact lit1 | exact lit2 | exact lit3 | rfl) (by simp only [List.length_cons, List.length_nil]; omega) rfl rfl rfl rfl) (h := ?_) | refine p_i (h := ?_) | refine p_ih (h := ?_) | refine s_lit (h := ?_) | refine p_lit (h := ?_) | refine p_lit0 (h := ?_) | refine s_lit0 (h := ?_) | refine s_ixa (h := ?_) | refine s_insert (h := ?_) | (refine s_sadd rfl ?_ (h := ?_); (focus (first | omega | (simp only [List.length_append, List.length_map, List.length_cons, List.length_nil, List.length_take, List.length_drop]; omega)))) | (refine p_sadd rfl ?_ (h := ?_); (focus (first | omega | (simp only [List.length_append, List.length_map, List.length_cons, List.length_nil, List.length_take, List.length_drop]; omega)))) | fail "")
        all_goals (exact endwA_)
  · rw [h0] at h1 ⊢
    rw [if_pos (by omega)]
    refine fn_of_run (by kernel_rfl) Try.func145 rfl (by kernel_rfl) ?_
    (repeat' first | (refine s_call (h1) (h := ?_)) | (refine p_call (h1) (h := ?_)) | (refine go_ ?_; ((repeat' first | exact True.intro | refine Two.mk ?_ ?_); all_goals intros)) | fail "")
    all_goals (exact endwA_)

/-! ### The last one that is so -/
def pN (f x : DField) : Prop := x.Name = f.Name
def pS (f x : DField) : Prop := x.Name = f.Name ∧ x.Value = f.Value
instance (f x : DField) : Decidable (pN f x) := inferInstanceAs (Decidable (_ = _))
instance (f x : DField) : Decidable (pS f x) := inferInstanceAs (Decidable (_ ∧ _))
theorem pS_iff {f x : DField} : pS f x ↔ strB x.Name = strB f.Name ∧ strB x.Value = strB f.Value ∧ True := by
  unfold pS; rw [strB_inj, strB_inj]; simp
def lastIx (p : DField → Prop) [DecidablePred p] (l : List DField) : Nat → Option Nat
  | 0 => none
  | k + 1 => if p (l.getD k default) then some k else lastIx p l k
theorem lastIx_t {p : DField → Prop} [DecidablePred p] {l : List DField} {k : Nat} (h : p (l.getD k default)) : lastIx p l (k + 1) = some k := if_pos h
theorem lastIx_f {p : DField → Prop} [DecidablePred p] {l : List DField} {k : Nat} (h : ¬ p (l.getD k default)) : lastIx p l (k + 1) = lastIx p l k := if_neg h
instance (f : DField) : DecidablePred (pS f) := fun x => inferInstance
instance (f : DField) : DecidablePred (pN f) := fun x => inferInstance
/-- P14.6 -/
noncomputable def tabFind (t : DTable) (f : DField) : Int × Bool × Int :=
  if tabFlt t ≠ 0 then (0, false, tabFlt t) else match lastIx (pS f) t.Rows t.Rows.length with
    | some i => (t.Put - t.Rows.length + i, true, 0)
    | none => match lastIx (pN f) t.Rows t.Rows.length with
      | some i => (t.Put - t.Rows.length + i, false, 0)
      | none => (0, false, 5)
def encFind (r : Int × Bool × Int) : V := .tup [.lit (.int .i64 r.1), .lit (.bool r.2.1), .lit (.int .i64 r.2.2)]
theorem find_s {t : DTable} {f : DField} {i : Nat} (h0 : tabFlt t = 0) (h : lastIx (pS f) t.Rows t.Rows.length = some i) : tabFind t f = (t.Put - t.Rows.length + i, true, 0) := by
  unfold tabFind; rw [if_neg (by omega), h]
theorem find_n {t : DTable} {f : DField} {i : Nat} (h0 : tabFlt t = 0) (h : lastIx (pS f) t.Rows t.Rows.length = none) (h2 : lastIx (pN f) t.Rows t.Rows.length = some i) : tabFind t f = (t.Put - t.Rows.length + i, false, 0) := by
  unfold tabFind; rw [if_neg (by omega), h, h2]
theorem find_0 {t : DTable} {f : DField} (h0 : tabFlt t = 0) (h : lastIx (pS f) t.Rows t.Rows.length = none) (h2 : lastIx (pN f) t.Rows t.Rows.length = none) : tabFind t f = (0, false, 5) := by
  unfold tabFind; rw [if_neg (by omega), h, h2]
theorem find_e {t : DTable} {f : DField} (h0 : tabFlt t ≠ 0) : tabFind t f = (0, false, tabFlt t) := by
  unfold tabFind; rw [if_pos h0]
set_option maxHeartbeats 2000000 in
theorem find_fn (t : DTable) (f : DField) (hw : wfTable t) (hf : wfField f) : Fn Try.prog 67 [.agg (encTable t), .agg (encField f)] (encFind (tabFind t f)) := by
  have h1 := tabCheck_fn t hw
  rcases tabFlt_cases t with ⟨h0, ho⟩ | ⟨h0, ho⟩
  · have hh := ho.1
    rw [h0] at h1
    refine fn_of_run (by kernel_rfl) Try.func67 rfl (by kernel_rfl) ?_
    (repeat' first | (refine s_call (h1) (h := ?_)) | (refine p_call (h1) (h := ?_)) | (refine go_ ?_; ((repeat' first | exact True.intro | refine Two.mk ?_ ?_); all_goals intros)) | fail "")
    refine r_for (fun i : Nat => ⟨[(2, .ptr 0 0 0 0), (3, .ptr 1 0 0 0), (8, .lit (.int .i64 (t.Put - t.Rows.length))), (24, .agg [.lit (.bool true), .lit (.bool false)]), (25, .lit (.int .i64 i))], [(0, some (.box 24 (encTable t))), (1, some (.box 113 (encField f)))], 2, Try.f67.ntmps⟩)
      (fun i => i ≤ 2 ∧ (1 ≤ i → lastIx (pS f) t.Rows t.Rows.length = none) ∧ (2 ≤ i → lastIx (pN f) t.Rows t.Rows.length = none)) (fun i => 2 - i) 0 ⟨by omega, by omega, by omega⟩ less_to ?_
    rintro i ⟨hi, hS, hN⟩
    obtain rfl | rfl | rfl : i = 0 ∨ i = 1 ∨ i = 2 := by omega
    · (repeat' first | (refine go_ ?_; ((repeat' first | exact True.intro | refine Two.mk ?_ ?_); all_goals intros)) | fail "")
      refine r_for (fun j : Nat => ⟨[(2, .ptr 0 0 0 0), (3, .ptr 1 0 0 0), (8, .lit (.int .i64 (t.Put - t.Rows.length))), (24, .agg [.lit (.bool true), .lit (.bool false)]), (25, .lit (.int .i64 ((0 : Nat) : Int))), (10, .lit (.bool true)), (11, .lit (.int .i64 ((j : Int) - 1)))], [(0, some (.box 24 (encTable t))), (1, some (.box 113 (encField f)))], 2, Try.f67.ntmps⟩)
        (fun j => j ≤ t.Rows.length ∧ lastIx (pS f) t.Rows t.Rows.length = lastIx (pS f) t.Rows j) (fun j => j) t.Rows.length ⟨Nat.le_refl _, rfl⟩ less_to ?_
      rintro j ⟨hj, hl⟩
      rcases j with _ | j
      · (repeat' first | (refine go_ ?_; ((repeat' first | exact True.intro | refine Two.mk ?_ ?_); all_goals intros)) | fail "")
        all_goals (refine ⟨1, ?_, ?_, ?_⟩; rotate_left 2; (exact lessA_); (focus (omega)); (focus (exact ⟨by omega, fun _ => hl, by omega⟩)))
      · (repeat' first | refine s_i (hq := q_index_ro (n := j) rfl rfl rfl (by omega) (by simp only [List.length_map]; omega) rfl rfl rfl (eAt_map _ (by omega))) (h := ?_) | (refine goI_ ?_; ((repeat' first | exact True.intro | refine Two.mk ?_ ?_); all_goals intros)) | refine s_i (h := ?_) | refine s_i (hq := q_index_ro rfl rfl rfl (by first | exact lit0 | exact lit1 | exact lit2 | exact lit3 | rfl) (by simp only [List.length_cons, List.length_nil]; omega) rfl rfl rfl rfl) (h := ?_) | refine p_i (h := ?_) | refine p_ih (h := ?_) | refine s_lit (h := ?_) | refine p_lit (h := ?_) | refine p_lit0 (h := ?_) | refine s_lit0 (h := ?_) | refine s_ixa (h := ?_) | refine s_insert (h := ?_) | (refine s_sadd rfl ?_ (h := ?_); (focus (first | omega | (simp only [List.length_append, List.length_map, List.length_cons, List.length_nil, List.length_take, List.length_drop]; omega)))) | (refine p_sadd rfl ?_ (h := ?_); (focus (first | omega | (simp only [List.length_append, List.length_map, List.length_cons, List.length_nil, List.length_take, List.length_drop]; omega)))) | fail "")
        all_goals first
          | (refine ⟨j, ?_, ?_, ?_⟩; rotate_left 2; (exact lessA_); (focus (omega)); (focus (exact ⟨by omega, by rw [hl]; exact lastIx_f (fun h => by first | exact absurd h.1 (by assumption) | exact absurd h.2 (by assumption))⟩)))
          | (rw [find_s h0 (hl.trans (lastIx_t ⟨by assumption, by assumption⟩))]; unfold encFind; (exact endwA_))
    · have hS := hS (by omega)
      (repeat' first | (refine go_ ?_; ((repeat' first | exact True.intro | refine Two.mk ?_ ?_); all_goals intros)) | fail "")
      refine r_for (fun j : Nat => ⟨[(2, .ptr 0 0 0 0), (3, .ptr 1 0 0 0), (8, .lit (.int .i64 (t.Put - t.Rows.length))), (24, .agg [.lit (.bool true), .lit (.bool false)]), (25, .lit (.int .i64 ((1 : Nat) : Int))), (10, .lit (.bool false)), (11, .lit (.int .i64 ((j : Int) - 1)))], [(0, some (.box 24 (encTable t))), (1, some (.box 113 (encField f)))], 2, Try.f67.ntmps⟩)
        (fun j => j ≤ t.Rows.length ∧ lastIx (pN f) t.Rows t.Rows.length = lastIx (pN f) t.Rows j) (fun j => j) t.Rows.length ⟨Nat.le_refl _, rfl⟩ less_to ?_
      rintro j ⟨hj, hl⟩
      rcases j with _ | j
      · (repeat' first | (refine go_ ?_; ((repeat' first | exact True.intro | refine Two.mk ?_ ?_); all_goals intros)) | fail "")
        all_goals (refine ⟨2, ?_, ?_, ?_⟩; rotate_left 2; (exact lessA_); (focus (omega)); (focus (exact ⟨by omega, fun _ => hS, fun _ => hl⟩)))
      · (repeat' first | refine s_i (hq := q_index_ro (n := j) rfl rfl rfl (by omega) (by simp only [List.length_map]; omega) rfl rfl rfl (eAt_map _ (by omega))) (h := ?_) | (refine goI_ ?_; ((repeat' first | exact True.intro | refine Two.mk ?_ ?_); all_goals intros)) | refine s_i (h := ?_) | refine s_i (hq := q_index_ro rfl rfl rfl (by first | exact lit0 | exact lit1 | exact lit2 | exact lit3 | rfl) (by simp only [List.length_cons, List.length_nil]; omega) rfl rfl rfl rfl) (h := ?_) | refine p_i (h := ?_) | refine p_ih (h := ?_) | refine s_lit (h := ?_) | refine p_lit (h := ?_) | refine p_lit0 (h := ?_) | refine s_lit0 (h := ?_) | refine s_ixa (h := ?_) | refine s_insert (h := ?_) | (refine s_sadd rfl ?_ (h := ?_); (focus (first | omega | (simp only [List.length_append, List.length_map, List.length_cons, List.length_nil, List.length_take, List.length_drop]; omega)))) | (refine p_sadd rfl ?_ (h := ?_); (focus (first | omega | (simp only [List.length_append, List.length_map, List.length_cons, List.length_nil, List.length_take, List.length_drop]; omega)))) | fail "")
        all_goals first
          | (refine ⟨j, ?_, ?_, ?_⟩; rotate_left 2; (exact lessA_); (focus (omega)); (focus (exact ⟨by omega, by rw [hl]; exact lastIx_f (fun h => absurd h (by assumption))⟩)))
          | (rw [find_n h0 hS (hl.trans (lastIx_t (by assumption)))]; unfold encFind; (exact endwA_))
    · (repeat' first | (refine go_ ?_; ((repeat' first | exact True.intro | refine Two.mk ?_ ?_); all_goals intros)) | fail "")
      all_goals (rw [find_0 h0 (hS (by omega)) (hN (by omega))]; unfold encFind; (exact endwA_))
  · rw [find_e (by omega), h0]
    rw [h0] at h1
    refine fn_of_run (by kernel_rfl) Try.func67 rfl (by kernel_rfl) ?_
    (repeat' first | (refine s_call (h1) (h := ?_)) | (refine p_call (h1) (h := ?_)) | (refine go_ ?_; ((repeat' first | exact True.intro | refine Two.mk ?_ ?_); all_goals intros)) | fail "")
    all_goals (unfold encFind; (exact endwA_))
def ixOf (t : DTable) : Option Nat → Int
  | some i => t.Put - t.Rows.length + i
  | none => -1
set_option maxHeartbeats 2000000 in
theorem found_fn (t : DTable) (f : DField) (hw : wfTable t) (hf : wfField f) : Fn Try.prog 75 [.agg (encTable t), .agg (encField f)] (encFind (tabFind t f)) := by
  have h1 := tabFault_fn t hw
  rcases tabFlt_cases t with ⟨h0, ho⟩ | ⟨h0, ho⟩
  · have hh := ho.1
    rw [h0] at h1
    refine fn_of_run (by kernel_rfl) Try.func75 rfl (by kernel_rfl) ?_
    (repeat' first | (refine s_call (h1) (h := ?_)) | (refine p_call (h1) (h := ?_)) | (refine go_ ?_; ((repeat' first | exact True.intro | refine Two.mk ?_ ?_); all_goals intros)) | fail "")
    refine r_for (fun k : Nat => ⟨[(2, .ptr 0 0 0 0), (3, .ptr 1 0 0 0), (8, .lit (.int .i64 (ixOf t (lastIx (pS f) t.Rows k)))), (9, .lit (.int .i64 (ixOf t (lastIx (pN f) t.Rows k)))), (19, .ro (t.Rows.map encField)), (20, .lit (.int .i64 t.Rows.length)), (21, .lit (.int .i64 k))], [(0, some (.box 24 (encTable t))), (1, some (.box 113 (encField f)))], 2, Try.f75.ntmps⟩)
      (fun k => k ≤ t.Rows.length) (fun k => t.Rows.length - k) 0 (Nat.zero_le _) less_to ?_
    intro k hk
    by_cases hkn : k < t.Rows.length
    · by_cases cS : pS f (t.Rows.getD k default)
      · have cN : pN f (t.Rows.getD k default) := cS.1
        have e1 : ixOf t (lastIx (pS f) t.Rows (k + 1)) = t.Put - t.Rows.length + k := by rw [lastIx_t cS]; rfl
        have e2 : ixOf t (lastIx (pN f) t.Rows (k + 1)) = t.Put - t.Rows.length + k := by rw [lastIx_t cN]; rfl
        (repeat' first | (refine go_ ?_; ((repeat' first | exact True.intro | refine Two.mk ?_ ?_); all_goals intros)) | fail "")
        all_goals first
          | (refine ⟨k + 1, ?_, ?_, ?_⟩; rotate_left 2; (exact lessA_); (focus (omega)); (focus (exact hkn)))
          | exact absurd (pS_iff.1 cS) (by assumption)
          | exact absurd cN (by assumption)
      · have e1 : ixOf t (lastIx (pS f) t.Rows (k + 1)) = ixOf t (lastIx (pS f) t.Rows k) := by rw [lastIx_f cS]
        by_cases cN : pN f (t.Rows.getD k default)
        · have e2 : ixOf t (lastIx (pN f) t.Rows (k + 1)) = t.Put - t.Rows.length + k := by rw [lastIx_t cN]; rfl
          (repeat' first | (refine go_ ?_; ((repeat' first | exact True.intro | refine Two.mk ?_ ?_); all_goals intros)) | fail "")
          all_goals first
            | (refine ⟨k + 1, ?_, ?_, ?_⟩; rotate_left 2; (exact lessA_); (focus (omega)); (focus (exact hkn)))
            | exact absurd (pS_iff.2 (by assumption)) cS
            | exact absurd cN (by assumption)
        · have e2 : ixOf t (lastIx (pN f) t.Rows (k + 1)) = ixOf t (lastIx (pN f) t.Rows k) := by rw [lastIx_f cN]
          (repeat' first | (refine go_ ?_; ((repeat' first | exact True.intro | refine Two.mk ?_ ?_); all_goals intros)) | fail "")
          all_goals first
            | (refine ⟨k + 1, ?_, ?_, ?_⟩; rotate_left 2; (exact lessA_); (focus (omega)); (focus (exact hkn)))
            | exact absurd (pS_iff.2 (by assumption)) cS
            | exact absurd (show pN f _ by assumption) cN
    · have hkl : k = t.Rows.length := by omega
      subst hkl
      cases eS : lastIx (pS f) t.Rows t.Rows.length with
      | some i =>
        rw [find_s h0 eS]
        have e1 : ixOf t (some i) = t.Put - t.Rows.length + i := rfl
        generalize ixOf t (some i) = z at *
        subst e1
        (repeat' first | (refine go_ ?_; ((repeat' first | exact True.intro | refine Two.mk ?_ ?_); all_goals intros)) | fail "")
        all_goals (unfold encFind; (exact endwA_))
      | none =>
        have e1 : ixOf t none = -1 := rfl
        rw [e1]
        cases eN : lastIx (pN f) t.Rows t.Rows.length with
        | some i =>
          rw [find_n h0 eS eN]
          have e1 : ixOf t (some i) = t.Put - t.Rows.length + i := rfl
          generalize ixOf t (some i) = z at *
          subst e1
          (repeat' first | (refine go_ ?_; ((repeat' first | exact True.intro | refine Two.mk ?_ ?_); all_goals intros)) | fail "")
          all_goals (unfold encFind; (exact endwA_))
        | none =>
          rw [find_0 h0 eS eN, e1]
          (repeat' first | (refine go_ ?_; ((repeat' first | exact True.intro | refine Two.mk ?_ ?_); all_goals intros)) | fail "")
          all_goals (unfold encFind; (exact endwA_))
  · rw [find_e (by omega), h0]
    rw [h0] at h1
    refine fn_of_run (by kernel_rfl) Try.func75 rfl (by kernel_rfl) ?_
    (repeat' first | (refine s_call (h1) (h := ?_)) | (refine p_call (h1) (h := ?_)) | (refine go_ ?_; ((repeat' first | exact True.intro | refine Two.mk ?_ ?_); all_goals intros)) | fail "")
    all_goals (unfold encFind; (exact endwA_))
end Go.Proofs.Ythpophgcmgdpjaa
