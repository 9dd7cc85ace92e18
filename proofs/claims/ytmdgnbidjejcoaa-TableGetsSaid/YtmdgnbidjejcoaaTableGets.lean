/-
  TableGets: table.Get and table.Find answer what P14.5 and P14.6 say, at every argument. No condition.
-/
import Derived.Test.YtmdgnbidjejcoaaTabG
import Derived.Test.YtmdgnbidjejcoaaCells
set_option linter.unusedSimpArgs false
set_option linter.unusedVariables false
namespace Go.Proofs.Ytmdgnbidjejcoaa.tableGets
open Go.ChangeShapes Go.WideShapes Go.ChangeAt Go.RowKit
set_option maxRecDepth 100000
attribute [local irreducible] Run RunL QStep GStep Fn Less PL FnM

theorem law_fn (t : DTable) (n : Int) (f : DField) (hw : wfTable t) (hf : wfField f) : Fn Try.prog 7 [.agg (encTable t), .lit (.int .i64 n), .agg (encField f)] (.lit (.bool true)) := by
  have h1 := get_fn t n hw
  have h2 := find_fn t f hw hf
  have h3 := got_fn t n hw
  have h4 := found_fn t f hw hf
  generalize tabGet t n = a at *
  generalize tabFind t f = b at *
  obtain ⟨a, e⟩ := a
  obtain ⟨b, c, d⟩ := b
  unfold encFind at h2 h4
  dsimp only at h1 h2 h3 h4
  cases c
  all_goals
    refine fn_of_run (by kernel_rfl) Try.func7 rfl (by kernel_rfl) ?_
    (repeat' first | (refine s_call (h1) (h := ?_)) | (refine p_call (h1) (h := ?_)) | (refine s_call (h2) (h := ?_)) | (refine p_call (h2) (h := ?_)) | (refine s_call (h3) (h := ?_)) | (refine p_call (h3) (h := ?_)) | (refine s_call (h4) (h := ?_)) | (refine p_call (h4) (h := ?_)) | refine r_seq ?_ | refine r_region ?_ | refine r_cond_t rfl ?_ | refine r_cond_f rfl ?_ | refine r_block ?_ | refine r_skip ?_ | refine r_ret ?_ | refine r_exit ?_ | refine l_nil ?_ | refine s_skip (h := ?_) | refine s_nw (h := ?_) | refine s_len (h := ?_) | refine s_lens (h := ?_) | refine s_q (h := ?_) | (refine s_cmp (ht := ?_) (hf := ?_) <;> intro _ <;> try (exfalso; omega)) | refine s_store (h := ?_) | refine s_box (h := ?_) | refine s_alloc (h := ?_) | refine s_quo (h := ?_) | refine s_rem (h := ?_) | refine s_i (h := ?_) | refine s_i (hq := q_index_ro rfl rfl rfl (by first | exact lit0 | exact lit1 | exact lit2 | exact lit3 | rfl) (by simp only [List.length_cons, List.length_nil]; omega) rfl rfl rfl rfl) (h := ?_) | refine r_drawA ?_ | refine p_nil ?_ | refine p_skip (h := ?_) | refine p_nw (h := ?_) | refine p_len (h := ?_) | refine p_lens (h := ?_) | refine p_q (h := ?_) | refine p_qh (h := ?_) | (refine p_cmp (ht := ?_) (hf := ?_) <;> intro _ <;> try (exfalso; omega)) | refine p_store (h := ?_) | refine p_box (h := ?_) | refine p_alloc (h := ?_) | refine p_i (h := ?_) | refine p_ih (h := ?_) | refine p_skip0 (h := ?_) | refine s_skip0 (h := ?_) | refine s_nilc (h := ?_) | refine p_nilc (h := ?_) | refine s_bstr (h := ?_) | refine s_lit (h := ?_) | refine p_lit (h := ?_) | refine p_lit0 (h := ?_) | refine s_lit0 (h := ?_) | refine s_ixa (h := ?_) | refine p_bstr (h := ?_) | (refine s_seql (ht := ?_) (hf := ?_) <;> intro _ <;> try (exfalso; omega)) | (refine s_sneq (ht := ?_) (hf := ?_) <;> intro _ <;> try (exfalso; omega)) | (refine s_beq (ht := ?_) (hf := ?_) <;> intro _ <;> try (exfalso; omega)) | (refine s_eqs (ht := ?_) (hf := ?_) <;> intro _ <;> try (exfalso; omega)) | (refine p_seql (ht := ?_) (hf := ?_) <;> intro _ <;> try (exfalso; omega)) | (refine p_beq (ht := ?_) (hf := ?_) <;> intro _ <;> try (exfalso; omega)) | (refine p_eqs (ht := ?_) (hf := ?_) <;> intro _ <;> try (exfalso; omega)) | refine thenQ_n ?_ | refine thenQ_r ?_ | refine thenQ_e ?_ | refine blockQ_n ?_ | refine blockQ_r ?_ | refine blockQ_x ?_ | refine blockQ_e rfl ?_)
    all_goals first
      | exact ends_ (hr := rfl)
      | (exfalso; simp at *; done)

theorem walk (W : World) (v0 : Value) (v1 : Value) (v2 : Value) (h0 : ArgIs Try.prog W 48 v0) (h1 : ArgIs Try.prog W 3 v1) (h2 : ArgIs Try.prog W 50 v2) :
    Calls Try.prog 7 #[v0, v1, v2] W fun e W' => e = .returned (.bool true) ∧ Below W.heap.size W W' := by
  obtain ⟨c0, rfl, g0⟩ := h0.struct_ Try.underlying48
  obtain ⟨x0, r0, w0⟩ := rTable_of_cells _ g0
  obtain ⟨x1, rfl, w1⟩ := h1.int_ Try.underlying3
  replace w1 := i64_of_wf w1
  obtain ⟨c2, rfl, g2⟩ := h2.struct_ Try.underlying50
  obtain ⟨x2, r2, w2⟩ := rField_of_cells _ g2
  exact law_of_fn (law_fn x0 x1 x2 w0 w2) (.cons (argv_agg r0) (.cons (argv_lit rfl) (.cons (argv_agg r2) (.nil))))

set_option maxRecDepth 100000 in
theorem lifted (os : Os) (started : os.Started) (H : Type) (enc : TypeId × Value → H) :
    ReturnsInHanded {} Try.checked os 7 .any (Rows.tableGetsSpec.pre6 enc Try.prog Try.f7 Rows.tableGetsRow.domain false) (Rows.tableGetsSpec.post enc Try.prog Try.f7 false true false false) :=
  law_lifted (C := Try.checked) (s := Rows.tableGetsSpec) (by kernel_rfl) started (by kernel_rfl) Try.func7
    (ChangeSpec.witness6 (enc := enc) (C := Try.checked) false ⟨#[], #[.agg #[.int .i64 0, .int .i64 0, .slice none 0 0], .int .i64 0, .agg #[.string ByteArray.empty, .string ByteArray.empty]], []⟩ 8 (by kernel_rfl) (by kernel_rfl) (by kernel_rfl) (by kernel_rfl))
    (by kernel_rfl) rfl (fun ds hd => by
      match ds, hd with
      | [_, _, _], _ => rfl) rfl Try.underlying4 (by kernel_rfl)
    (fun W args h => by
      rw [Try.params7] at h
      obtain ⟨v0, l0, e0, h0, r0⟩ := h
      obtain ⟨v1, l1, e1, h1, r1⟩ := r0
      obtain ⟨v2, l2, e2, h2, r2⟩ := r1
      have r2' : l2 = [] := r2
      obtain rfl : args = #[v0, v1, v2] := by
        apply Array.toList_inj.1
        rw [e0, e1, e2, r2']
      exact walk W v0 v1 v2 h0 h1 h2)

theorem over : Rows.tableGetsRow.holds Try.pinned (OpenSpec.ofChange Rows.tableGetsSpec) :=
  OpenClaim.holds_of_wide 7 Try.f7 rfl rfl rfl rfl rfl rfl rfl ⟨rfl, rfl, rfl, rfl, rfl⟩ rfl rfl rfl rfl rfl (by kernel_rfl) Try.func7 (by kernel_rfl)
    (of_decide_eq_true (by kernel_rfl)) (by unfold Func.isWrapper; first | (rw [if_pos (by decide +kernel)]; kernel_rfl) | (rw [if_neg (by decide +kernel)]; exact ⟨rfl, rfl⟩))
    (fun os started H enc _ => lifted os started H enc)

theorem proved : Rows.TableGetsSaid := over
#print axioms proved

end Go.Proofs.Ytmdgnbidjejcoaa.tableGets
