/-
  TableInserts: table.Check and table.Insert answer what P14.1 to P14.3 says, at every argument. No condition.
-/
import Derived.Test.YtmdgnbidjejcoaaTabI
import Derived.Test.YtmdgnbidjejcoaaSameTab
import Derived.Test.YtmdgnbidjejcoaaCells
set_option linter.unusedSimpArgs false
set_option linter.unusedVariables false
namespace Go.Proofs.Ytmdgnbidjejcoaa.tableInserts
open Go.ChangeShapes Go.WideShapes Go.ChangeAt Go.RowKit
set_option maxRecDepth 100000
attribute [local irreducible] Run RunL QStep GStep Fn Less PL FnM

theorem wf_of (t : DTable) (f : DField) (hw : wfTable t) (hf : wfField f) : wfTable (tabIns t f).1 := by
  have hz : wfTable ⟨0, 0, []⟩ := by unfold wfTable I64; simp
  unfold tabIns
  rcases tabFlt_cases t with ⟨h0, ho⟩ | ⟨h0, ho⟩
  · rw [h0, if_neg (by omega)]
    split
    · exact hz
    · have hlen := fitL_len t.Room (t.Rows ++ [f])
      have hh := ho.1
      have hs := fitL_sum (l := t.Rows ++ [f]) hh.1
      have hn : ∀ l : List DField, 32 * l.length ≤ fSum l := fun l => by
        induction l with
        | nil => simp [fSum]
        | cons g l ih => simp only [fSum, List.length_cons, fLen]; omega
      have h1 := hn (fitL t.Room (t.Rows ++ [f]))
      refine ⟨hw.1, ?_, by dsimp only; omega, fun y hy => ?_⟩
      · unfold I64; dsimp only; omega
      · rcases List.mem_append.1 (fitL_mem hy) with h | h
        · exact hw.2.2.2 y h
        · rw [List.mem_singleton.1 h]; exact hf
  · rw [h0, if_pos (by omega)]; exact hz
theorem law_fn (t : DTable) (f : DField) (hw : wfTable t) (hf : wfField f) : Fn Try.prog 6 [.agg (encTable t), .agg (encField f)] (.lit (.bool true)) := by
  have h1 := tabCheck_fn t hw
  have h2 := insert_fn t f hw hf
  have h3 := tabFault_fn t hw
  have h4 := insertRef_fn t f hw hf
  have h5 := sameTable_fn _ _ (wf_of t f hw hf) (wf_of t f hw hf)
  have h6 := size_fn f hf
  rw [yes_of rfl] at h5
  unfold wfField at hf
  generalize tabFlt t = a at *
  generalize tabIns t f = r at *
  obtain ⟨r, e⟩ := r
  dsimp only at h2 h4 h5
  unfold fLen at h6
  refine fn_of_run (by kernel_rfl) Try.func6 rfl (by kernel_rfl) ?_
  (repeat' first | (refine s_call (h1) (h := ?_)) | (refine p_call (h1) (h := ?_)) | (refine s_call (h2) (h := ?_)) | (refine p_call (h2) (h := ?_)) | (refine s_call (h3) (h := ?_)) | (refine p_call (h3) (h := ?_)) | (refine s_call (h4) (h := ?_)) | (refine p_call (h4) (h := ?_)) | (refine s_call (h5) (h := ?_)) | (refine p_call (h5) (h := ?_)) | (refine s_call (h6) (h := ?_)) | (refine p_call (h6) (h := ?_)) | refine r_seq ?_ | refine r_region ?_ | refine r_cond_t rfl ?_ | refine r_cond_f rfl ?_ | refine r_block ?_ | refine r_skip ?_ | refine r_ret ?_ | refine r_exit ?_ | refine l_nil ?_ | refine s_skip (h := ?_) | refine s_nw (h := ?_) | refine s_len (h := ?_) | refine s_lens (h := ?_) | refine s_q (h := ?_) | (refine s_cmp (ht := ?_) (hf := ?_) <;> intro _ <;> try (exfalso; omega)) | refine s_store (h := ?_) | refine s_box (h := ?_) | refine s_alloc (h := ?_) | refine s_quo (h := ?_) | refine s_rem (h := ?_) | refine s_i (h := ?_) | refine s_i (hq := q_index_ro rfl rfl rfl (by first | exact lit0 | exact lit1 | exact lit2 | exact lit3 | rfl) (by simp only [List.length_cons, List.length_nil]; omega) rfl rfl rfl rfl) (h := ?_) | refine r_drawA ?_ | refine p_nil ?_ | refine p_skip (h := ?_) | refine p_nw (h := ?_) | refine p_len (h := ?_) | refine p_lens (h := ?_) | refine p_q (h := ?_) | refine p_qh (h := ?_) | (refine p_cmp (ht := ?_) (hf := ?_) <;> intro _ <;> try (exfalso; omega)) | refine p_store (h := ?_) | refine p_box (h := ?_) | refine p_alloc (h := ?_) | refine p_i (h := ?_) | refine p_ih (h := ?_) | refine p_skip0 (h := ?_) | refine s_skip0 (h := ?_) | refine s_nilc (h := ?_) | refine p_nilc (h := ?_) | refine s_bstr (h := ?_) | refine s_lit (h := ?_) | refine p_lit (h := ?_) | refine p_lit0 (h := ?_) | refine s_lit0 (h := ?_) | refine s_ixa (h := ?_) | refine p_bstr (h := ?_) | (refine s_seql (ht := ?_) (hf := ?_) <;> intro _ <;> try (exfalso; omega)) | (refine s_sneq (ht := ?_) (hf := ?_) <;> intro _ <;> try (exfalso; omega)) | (refine s_beq (ht := ?_) (hf := ?_) <;> intro _ <;> try (exfalso; omega)) | (refine s_eqs (ht := ?_) (hf := ?_) <;> intro _ <;> try (exfalso; omega)) | (refine p_seql (ht := ?_) (hf := ?_) <;> intro _ <;> try (exfalso; omega)) | (refine p_beq (ht := ?_) (hf := ?_) <;> intro _ <;> try (exfalso; omega)) | (refine p_eqs (ht := ?_) (hf := ?_) <;> intro _ <;> try (exfalso; omega)) | refine thenQ_n ?_ | refine thenQ_r ?_ | refine thenQ_e ?_ | refine blockQ_n ?_ | refine blockQ_r ?_ | refine blockQ_x ?_ | refine blockQ_e rfl ?_)
  all_goals first
    | exact ends_ (hr := rfl)
    | (exfalso; simp at *; done)
    | (exfalso; omega)

theorem walk (W : World) (v0 : Value) (v1 : Value) (h0 : ArgIs Try.prog W 48 v0) (h1 : ArgIs Try.prog W 50 v1) :
    Calls Try.prog 6 #[v0, v1] W fun e W' => e = .returned (.bool true) ∧ Below W.heap.size W W' := by
  obtain ⟨c0, rfl, g0⟩ := h0.struct_ Try.underlying48
  obtain ⟨x0, r0, w0⟩ := rTable_of_cells _ g0
  obtain ⟨c1, rfl, g1⟩ := h1.struct_ Try.underlying50
  obtain ⟨x1, r1, w1⟩ := rField_of_cells _ g1
  exact law_of_fn (law_fn x0 x1 w0 w1) (.cons (argv_agg r0) (.cons (argv_agg r1) (.nil)))

set_option maxRecDepth 100000 in
theorem lifted (os : Os) (started : os.Started) (H : Type) (enc : TypeId × Value → H) :
    ReturnsInHanded {} Try.checked os 6 .any (Rows.tableInsertsSpec.pre6 enc Try.prog Try.f6 Rows.tableInsertsRow.domain false) (Rows.tableInsertsSpec.post enc Try.prog Try.f6 false true false false) :=
  law_lifted (C := Try.checked) (s := Rows.tableInsertsSpec) (by kernel_rfl) started (by kernel_rfl) Try.func6
    (ChangeSpec.witness6 (enc := enc) (C := Try.checked) false ⟨#[], #[.agg #[.int .i64 0, .int .i64 0, .slice none 0 0], .agg #[.string ByteArray.empty, .string ByteArray.empty]], []⟩ 8 (by kernel_rfl) (by kernel_rfl) (by kernel_rfl) (by kernel_rfl))
    (by kernel_rfl) rfl (fun ds hd => by
      match ds, hd with
      | [_, _], _ => rfl) rfl Try.underlying4 (by kernel_rfl)
    (fun W args h => by
      rw [Try.params6] at h
      obtain ⟨v0, l0, e0, h0, r0⟩ := h
      obtain ⟨v1, l1, e1, h1, r1⟩ := r0
      have r1' : l1 = [] := r1
      obtain rfl : args = #[v0, v1] := by
        apply Array.toList_inj.1
        rw [e0, e1, r1']
      exact walk W v0 v1 h0 h1)

theorem over : Rows.tableInsertsRow.holds Try.pinned (OpenSpec.ofChange Rows.tableInsertsSpec) :=
  OpenClaim.holds_of_wide 6 Try.f6 rfl rfl rfl rfl rfl rfl rfl ⟨rfl, rfl, rfl, rfl, rfl⟩ rfl rfl rfl rfl rfl (by kernel_rfl) Try.func6 (by kernel_rfl)
    (of_decide_eq_true (by kernel_rfl)) (by unfold Func.isWrapper; first | (rw [if_pos (by decide +kernel)]; kernel_rfl) | (rw [if_neg (by decide +kernel)]; exact ⟨rfl, rfl⟩))
    (fun os started H enc _ => lifted os started H enc)

theorem proved : Rows.TableInsertsSaid := over
#print axioms proved

end Go.Proofs.Ytmdgnbidjejcoaa.tableInserts
