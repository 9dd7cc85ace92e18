/-
  fields.Decode, and the reference's knownOf, lineOf and FieldsOf: what they answer. No condition.
-/
import Derived.Test.YthpophgcmgdpjaaGo
import Derived.Test.YthpophgcmgdpjaaFldD
set_option linter.unusedVariables false
set_option linter.unusedSimpArgs false
set_option linter.unusedVariables false
namespace Go.Proofs.Ythpophgcmgdpjaa
set_option maxRecDepth 100000
attribute [local irreducible] Run RunL QStep GStep Fn Less PL FnM

theorem nn0' : ¬ ((0 : Int) ≠ 0) := by omega
/-- P15.4: the lines, as far as they are right -/
noncomputable def deRun (t : DTable) (need : Int) : Nat → List UInt8 → List DField → List DField × Int
  | 0, s, out => (out, 0)
  | n + 1, s, out => if s.length = 0 then (out, 0) else if out.length = 8 then ([], 1) else if (lineF t need s).2.2 ≠ 0 then ([], (lineF t need s).2.2) else deRun t need n (lineF t need s).2.1 (out ++ [(lineF t need s).1])
def deEnd (R : List DField × Int) : List DField × Int := if R.2 ≠ 0 then ([], R.2) else if fldsFlt R.1 ≠ 0 then ([], fldsFlt R.1) else (R.1, 0)
noncomputable def deR (t : DTable) (b : List UInt8) : List DField × Int :=
  if tabFlt t ≠ 0 then ([], tabFlt t) else if (numF b 8 0).2.2 ≠ 0 then ([], (numF b 8 0).2.2) else if t.Put < (numF b 8 0).1 then ([], 14)
  else deEnd (deRun t (numF b 8 0).1 b.length (numF b 8 0).2.1 [])
theorem deEndE {e : Int} (l : List DField) (he : ¬ e = 0) : deEnd (l, e) = ([], e) := if_pos he
theorem deEnd0 (l : List DField) : deEnd (l, 0) = if fldsFlt l ≠ 0 then ([], fldsFlt l) else (l, 0) := if_neg (by simp)
theorem deRun0 (t : DTable) (need : Int) (n : Nat) {s : List UInt8} (out : List DField) (h : s.length = 0) : deRun t need n s out = (out, 0) := by
  cases n with
  | zero => rfl
  | succ n => exact if_pos h
theorem knF_wf {s : List UInt8} {w : Int} : wfField (knF s w).1 := by
  have hz : wfField fZ := by unfold wfField fZ; simp
  unfold knF
  split
  · exact hz
  · split
    · exact hz
    · have h : ∀ f ∈ knownL, wfField f := by
        unfold wfField
        decide
      by_cases hk : (numF s w 0).1.toNat < knownL.length
      · exact h _ (getD_mem hk)
      · dsimp only
        rw [List.getD_eq_getElem?_getD, List.getElem?_eq_none (by omega)]
        unfold wfField
        decide
theorem tabGet_wf {t : DTable} (hw : wfTable t) (n : Int) : wfField (tabGet t n).1 := by
  have hz : wfField ⟨[], []⟩ := by unfold wfField; simp
  unfold tabGet
  split
  · exact hz
  · split
    · exact hz
    · split
      · exact hz
      · by_cases hk : (n - (t.Put - t.Rows.length)).toNat < t.Rows.length
        · exact hw.2.2.2 _ (getD_mem hk)
        · dsimp only
          rw [List.getD_eq_getElem?_getD, List.getElem?_eq_none (by omega)]
          unfold wfField
          decide
theorem lineF_wf {t : DTable} (hw : wfTable t) {need : Int} {s : List UInt8} : wfField (lineF t need s).1 := by
  have hz : wfField fZ := by unfold wfField fZ; simp
  have h1 := @txtF_small
  unfold lineF
  split
  · exact knF_wf
  · split
    · split
      · exact hz
      · split
        · exact hz
        · exact tabGet_wf hw _
    · split
      · have := @knF_wf s 4
        have h2 := h1 (s := (knF s 4).2.1) (w := 7) (e := (knF s 4).2.2)
        unfold wfField at *
        dsimp only
        omega
      · split
        · have h3 := h1 (s := s) (w := 3) (e := 0)
          have h2 := h1 (s := (txtF s 3 0).2.1) (w := 7) (e := (txtF s 3 0).2.2)
          unfold wfField
          dsimp only
          omega
        · exact hz
set_option maxHeartbeats 8000000 in
theorem decodeF_fn (t : DTable) (b : List UInt8) (hw : wfTable t) (hb : b.length ≤ 1000000000000000) : Fn Try.prog 15 [.agg (encTable t), .ro (b.map encB)] (.tup [.ro ((deR t b).1.map encField), .lit (.int .i64 (deR t b).2)]) := by
  have h1 := tabCheck_fn t hw
  unfold deR
  rcases tabFlt_cases t with ⟨h0, hok⟩ | ⟨h0, hbad⟩
  · rw [h0] at h1
    rw [if_neg (by omega)]
    have g1 := numberF_fnm b 8 0 hb
    have hk := @numF_ok b 8
    have hle := @numF_le b 8 0
    generalize numF b 8 0 = a at *
    obtain ⟨need, s, e⟩ := a
    dsimp only at *
    by_cases he : e = 0
    · subst he
      rw [if_neg nn0']
      obtain ⟨k1, k2, k3⟩ := hk rfl
      clear hk h0
      by_cases hp : t.Put < need
      · rw [if_pos hp]
        refine fn_of_run (by kernel_rfl) Try.func15 rfl (by kernel_rfl) ?_
        (repeat' first | (refine s_call (h1) (h := ?_)) | (refine p_call (h1) (h := ?_)) | (refine s_callM [1] (g1) (h := ?_)) | (refine s_callM0 [1] (g1) (h := ?_)) | (refine p_callM [1] (g1) (h := ?_)) | (refine go_ ?_; ((repeat' first | exact True.intro | refine Two.mk ?_ ?_); all_goals intros)) | fail "")
        all_goals first
          | (exact endwA_)
          | skip
      · rw [if_neg hp]
        generalize hR : deRun t need b.length s [] = R
        refine fn_of_run (by kernel_rfl) Try.func15 rfl (by kernel_rfl) ?_
        (repeat' first | (refine s_call (h1) (h := ?_)) | (refine p_call (h1) (h := ?_)) | (refine s_callM [1] (g1) (h := ?_)) | (refine s_callM0 [1] (g1) (h := ?_)) | (refine p_callM [1] (g1) (h := ?_)) | (refine go_ ?_; ((repeat' first | exact True.intro | refine Two.mk ?_ ?_); all_goals intros)) | fail "")
        refine r_for (fun x : Nat × List UInt8 × List DField => ⟨[(2, .ptr 0 0 0 0), (7, .ptr 1 0 0 0), (8, .lit (.int .i64 need)), (9, .own 2)], [(0, some (.box 24 (encTable t))), (1, some (.box 110 [.ro (x.2.1.map encB), .lit (.int .i64 0)])), (2, some (.row 113 2 (x.2.2.map encField)))], 3, Try.f15.ntmps⟩)
          (fun x => (deRun t need x.1 x.2.1 x.2.2 = R ∧ x.2.1.length ≤ x.1 ∧ x.2.1.length ≤ b.length) ∧ x.2.2.length ≤ 8 ∧ ∀ f ∈ x.2.2, wfField f) (fun x => x.1) (b.length, s, []) ⟨⟨hR, hle, hle⟩, by simp, fun f hf => by cases hf⟩ ((less_own (n := 2) (t := 9) 113 2 rfl rfl rfl).trans less_to) ?_
        clear hR h1 g1 hle k1
        rintro ⟨n, s, out⟩ ⟨⟨hrun, hn, hsb⟩, ho, hwf⟩
        dsimp only at hrun hn hsb ho hwf ⊢
        by_cases hs0 : s.length = 0
        · rw [deRun0 _ _ _ _ hs0] at hrun
          subst hrun
          rw [deEnd0]
          have h2 := fldsCheck_fn out hwf (by omega)
          by_cases hf : fldsFlt out = 0
          · rw [hf] at h2
            rw [if_neg (by omega)]
            (repeat' first | (refine s_snap (h2) (h := ?_)) | (refine p_snapO (h2) (h := ?_)) | (refine go_ ?_; ((repeat' first | exact True.intro | refine Two.mk ?_ ?_); all_goals intros)) | fail "")
            all_goals first
              | (exact endwA_)
              | skip
          · rw [if_pos hf]
            generalize fldsFlt out = e at *
            (repeat' first | (refine s_snap (h2) (h := ?_)) | (refine p_snapO (h2) (h := ?_)) | (refine go_ ?_; ((repeat' first | exact True.intro | refine Two.mk ?_ ?_); all_goals intros)) | fail "")
            all_goals first
              | (exact endwA_)
              | skip
        obtain ⟨m, rfl⟩ : ∃ m, n = m + 1 := ⟨n - 1, by omega⟩
        rw [show deRun t need (m + 1) s out = _ from if_neg hs0] at hrun
        by_cases h8 : out.length = 8
        · rw [if_pos h8] at hrun
          subst hrun
          rw [deEndE _ (by decide)]
          (repeat' first | (refine go_ ?_; ((repeat' first | exact True.intro | refine Two.mk ?_ ?_); all_goals intros)) | fail "")
          all_goals first
            | (exact endwA_)
            | skip
        rw [if_neg h8] at hrun
        have g2 := line_fnm t need s hw ⟨k2, k3⟩ hs0 (by omega)
        have hl := @lineF_ok t need s
        have hlw := @lineF_wf t hw need s
        generalize lineF t need s = q at *
        obtain ⟨f, s2, e⟩ := q
        dsimp only at *
        by_cases he : e = 0
        · subst he
          rw [if_neg nn0'] at hrun
          have hl := hl rfl
          have hwf2 : ∀ y ∈ out ++ [f], wfField y := fun y hy => by
            rcases List.mem_append.1 hy with h | h
            · exact hwf y h
            · rw [List.mem_singleton.1 h]; exact hlw
          (repeat' first | (refine s_callM [1] (g2) (h := ?_)) | (refine s_callM0 [1] (g2) (h := ?_)) | (refine p_callM [1] (g2) (h := ?_)) | (refine s_app (r := (out ++ [f]).map encField) ?_ ?_ ?_ ?_ (h := ?_); (focus (first | with_reducible rfl | with_reducible exact List.nil_append _ | with_reducible exact (List.map_append ..).symm | (rw [take_snoc (by assumption), List.map_append]; rfl) | (rw [List.map_append]; rfl) | (simp; done))); (focus (first | exact len_none | exact len_one rfl | exact len_two rfl rfl | exact len_enc (fun _ => rfl))); (focus ((conv => lhs; rhs; whnf); simp only [List.length_map, List.length_append, List.length_cons, List.length_nil, List.length_take]; omega)); (focus (simp only [List.length_map, List.length_append, List.length_cons, List.length_nil, List.length_take]; omega))) | (refine s_app0R (r := (out ++ [f]).map encField) ?_ ?_ ?_ ?_ (h := ?_); (focus (first | with_reducible rfl | with_reducible exact List.nil_append _ | with_reducible exact (List.map_append ..).symm | (rw [take_snoc (by assumption), List.map_append]; rfl) | (rw [List.map_append]; rfl) | (simp; done))); (focus (first | exact len_none | exact len_one rfl | exact len_two rfl rfl | exact len_enc (fun _ => rfl))); (focus ((conv => lhs; rhs; whnf); simp only [List.length_map, List.length_append, List.length_cons, List.length_nil, List.length_take]; omega)); (focus (simp only [List.length_map, List.length_append, List.length_cons, List.length_nil, List.length_take]; omega))) | (refine p_app (r := (out ++ [f]).map encField) ?_ ?_ ?_ ?_ (h := ?_); (focus (first | with_reducible rfl | with_reducible exact List.nil_append _ | with_reducible exact (List.map_append ..).symm | (rw [take_snoc (by assumption), List.map_append]; rfl) | (rw [List.map_append]; rfl) | (simp; done))); (focus (first | exact len_none | exact len_one rfl | exact len_two rfl rfl | exact len_enc (fun _ => rfl))); (focus ((conv => lhs; rhs; whnf); simp only [List.length_map, List.length_append, List.length_cons, List.length_nil, List.length_take]; omega)); (focus (simp only [List.length_map, List.length_append, List.length_cons, List.length_nil, List.length_take]; omega))) | (refine p_app0R (r := (out ++ [f]).map encField) ?_ ?_ ?_ ?_ (h := ?_); (focus (first | with_reducible rfl | with_reducible exact List.nil_append _ | with_reducible exact (List.map_append ..).symm | (rw [take_snoc (by assumption), List.map_append]; rfl) | (rw [List.map_append]; rfl) | (simp; done))); (focus (first | exact len_none | exact len_one rfl | exact len_two rfl rfl | exact len_enc (fun _ => rfl))); (focus ((conv => lhs; rhs; whnf); simp only [List.length_map, List.length_append, List.length_cons, List.length_nil, List.length_take]; omega)); (focus (simp only [List.length_map, List.length_append, List.length_cons, List.length_nil, List.length_take]; omega))) | (refine go_ ?_; ((repeat' first | exact True.intro | refine Two.mk ?_ ?_); all_goals intros)) | fail "")
          all_goals first
            | (refine ⟨(m, s2, out ++ [f]), ?_, ?_, ?_⟩; rotate_left 2; (exact lessA_); (focus (dsimp only; omega)); (focus (exact ⟨⟨hrun, by dsimp only; omega, by dsimp only; omega⟩, by simp; omega, hwf2⟩)))
            | skip
        · rw [if_pos he] at hrun
          subst hrun
          rw [deEndE _ he]
          (repeat' first | (refine s_callM [1] (g2) (h := ?_)) | (refine s_callM0 [1] (g2) (h := ?_)) | (refine p_callM [1] (g2) (h := ?_)) | (refine go_ ?_; ((repeat' first | exact True.intro | refine Two.mk ?_ ?_); all_goals intros)) | fail "")
          all_goals first
            | (exact endwA_)
            | skip
    · rw [if_pos he]
      refine fn_of_run (by kernel_rfl) Try.func15 rfl (by kernel_rfl) ?_
      (repeat' first | (refine s_call (h1) (h := ?_)) | (refine p_call (h1) (h := ?_)) | (refine s_callM [1] (g1) (h := ?_)) | (refine s_callM0 [1] (g1) (h := ?_)) | (refine p_callM [1] (g1) (h := ?_)) | (refine go_ ?_; ((repeat' first | exact True.intro | refine Two.mk ?_ ?_); all_goals intros)) | fail "")
      all_goals first
        | (exact endwA_)
        | skip
  · rw [h0] at h1 ⊢
    rw [if_pos (by decide)]
    refine fn_of_run (by kernel_rfl) Try.func15 rfl (by kernel_rfl) ?_
    (repeat' first | (refine s_call (h1) (h := ?_)) | (refine p_call (h1) (h := ?_)) | (refine go_ ?_; ((repeat' first | exact True.intro | refine Two.mk ?_ ?_); all_goals intros)) | fail "")
    all_goals first
      | (exact endwA_)
      | skip
end Go.Proofs.Ythpophgcmgdpjaa
