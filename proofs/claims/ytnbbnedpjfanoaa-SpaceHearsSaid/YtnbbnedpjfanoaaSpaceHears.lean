/-
  SpaceHears: space.Hear answers what P11.5 says, at every argument. No condition.
-/
import Derived.Test.YtnbbnedpjfanoaaSpaceH
import Derived.Test.YtnbbnedpjfanoaaSameSpace
import Derived.Test.YtnbbnedpjfanoaaCells
set_option linter.unusedSimpArgs false
set_option linter.unusedVariables false
namespace Go.Proofs.Ytnbbnedpjfanoaa.spaceHears
open Go.ChangeShapes Go.WideShapes Go.ChangeAt Go.RowKit
set_option maxRecDepth 100000
attribute [local irreducible] Run RunL QStep GStep Fn Less PL FnM

theorem law_fn (s : DSpace) (n : Int) (hw : wfSpace s) : Fn Try.prog 10 [.agg (encSpace s), .lit (.int .i64 n)] (.lit (.bool true)) := by
  have h1 := hear_fn s n hw
  have h2 := heardSp_fn s n hw
  have h3 := sameSpace_fn _ _ (spHear_wf s n hw) (spHear_wf s n hw)
  rw [yes_of rfl] at h3
  generalize spHear s n = a at *
  obtain ⟨a, b, e⟩ := a
  unfold encSH at h1 h2
  dsimp only at h1 h2 h3
  cases b
  all_goals refine fn_of_run (by kernel_rfl) Try.func10 rfl (by kernel_rfl) ?_
  all_goals (repeat' first | (refine s_call (h1) (h := ?_)) | (refine p_call (h1) (h := ?_)) | (refine s_call (h2) (h := ?_)) | (refine p_call (h2) (h := ?_)) | (refine s_call (h3) (h := ?_)) | (refine p_call (h3) (h := ?_)) | refine p_quo (h := ?_) | refine p_rem (h := ?_) | refine r_seq ?_ | refine r_region ?_ | refine r_cond_t rfl ?_ | refine r_cond_f rfl ?_ | refine r_block ?_ | refine r_skip ?_ | refine r_ret ?_ | refine r_exit ?_ | refine l_nil ?_ | refine s_skip (h := ?_) | refine s_nw (h := ?_) | refine s_len (h := ?_) | refine s_lens (h := ?_) | refine s_q (h := ?_) | (refine s_cmp (ht := ?_) (hf := ?_) <;> intro _ <;> try (exfalso; omega)) | refine s_store (h := ?_) | refine s_box (h := ?_) | refine s_alloc (h := ?_) | refine s_quo (h := ?_) | refine s_rem (h := ?_) | refine s_i (h := ?_) | refine s_i (hq := q_index_ro rfl rfl rfl (by first | exact lit0 | exact lit1 | exact lit2 | exact lit3 | rfl) (by simp only [List.length_cons, List.length_nil]; omega) rfl rfl rfl rfl) (h := ?_) | refine r_drawA ?_ | refine p_nil ?_ | refine p_skip (h := ?_) | refine p_nw (h := ?_) | refine p_len (h := ?_) | refine p_lens (h := ?_) | refine p_q (h := ?_) | refine p_qh (h := ?_) | (refine p_cmp (ht := ?_) (hf := ?_) <;> intro _ <;> try (exfalso; omega)) | refine p_store (h := ?_) | refine p_box (h := ?_) | refine p_alloc (h := ?_) | refine p_i (h := ?_) | refine p_ih (h := ?_) | refine p_skip0 (h := ?_) | refine s_skip0 (h := ?_) | refine s_nilc (h := ?_) | refine p_nilc (h := ?_) | refine s_bstr (h := ?_) | refine s_lit (h := ?_) | refine p_lit (h := ?_) | refine p_lit0 (h := ?_) | refine s_lit0 (h := ?_) | refine s_ixa (h := ?_) | refine s_func (h := ?_) | refine p_bstr (h := ?_) | (refine s_seql (ht := ?_) (hf := ?_) <;> intro hb_ <;> try (exfalso; first | omega | (simp at hb_; done) | exact absurd hb_ (by assumption) | exact absurd (by assumption) hb_)) | (refine s_sneq (ht := ?_) (hf := ?_) <;> intro hb_ <;> try (exfalso; first | omega | (simp at hb_; done) | exact absurd hb_ (by assumption) | exact absurd (by assumption) hb_)) | (refine s_eqs (ht := ?_) (hf := ?_) <;> intro hb_ <;> try (exfalso; first | omega | (simp at hb_; done) | exact absurd hb_ (by assumption) | exact absurd (by assumption) hb_)) | (refine p_seql (ht := ?_) (hf := ?_) <;> intro hb_ <;> try (exfalso; first | omega | (simp at hb_; done) | exact absurd hb_ (by assumption) | exact absurd (by assumption) hb_)) | (refine p_sneq (ht := ?_) (hf := ?_) <;> intro hb_ <;> try (exfalso; first | omega | (simp at hb_; done) | exact absurd hb_ (by assumption) | exact absurd (by assumption) hb_)) | (refine p_eqs (ht := ?_) (hf := ?_) <;> intro hb_ <;> try (exfalso; first | omega | (simp at hb_; done) | exact absurd hb_ (by assumption) | exact absurd (by assumption) hb_)) | refine thenQ_n ?_ | refine thenQ_r ?_ | refine thenQ_e ?_ | refine blockQ_n ?_ | refine blockQ_r ?_ | refine blockQ_x ?_ | refine blockQ_e rfl ?_ | refine p_shr (h := ?_) | refine p_shl (h := ?_) | (refine s_bytes (h63 := ?_) (h := ?_); (focus (first | omega | (simp only [List.length_append, List.length_map, List.length_cons, List.length_nil, List.length_take, List.length_drop]; omega)))) | (refine p_bytes (h63 := ?_) (h := ?_); (focus (first | omega | (simp only [List.length_append, List.length_map, List.length_cons, List.length_nil, List.length_take, List.length_drop]; omega)))) | refine s_sidx (h := ?_) | refine p_sidx (h := ?_) | refine s_makeMap (h := ?_) | refine s_insert (h := ?_) | (refine s_beq (ht := ?_) (hf := ?_) <;> intro hb_ <;> try (exfalso; simp at hb_; done)) | (refine p_beq (ht := ?_) (hf := ?_) <;> intro hb_ <;> try (exfalso; simp at hb_; done)) | (refine s_bne (ht := ?_) (hf := ?_) <;> intro hb_ <;> try (exfalso; simp at hb_; done)) | (refine p_bne (ht := ?_) (hf := ?_) <;> intro hb_ <;> try (exfalso; simp at hb_; done)) | (refine s_sadd rfl ?_ (h := ?_); (focus (first | omega | (simp only [List.length_append, List.length_map, List.length_cons, List.length_nil, List.length_take, List.length_drop]; omega)))) | (refine p_sadd rfl ?_ (h := ?_); (focus (first | omega | (simp only [List.length_append, List.length_map, List.length_cons, List.length_nil, List.length_take, List.length_drop]; omega)))))
  all_goals first
    | exact ends_ (hr := rfl)
    | (exfalso; simp at *; done)

theorem walk (W : World) (v0 : Value) (v1 : Value) (h0 : ArgIs Try.prog W 62 v0) (h1 : ArgIs Try.prog W 3 v1) :
    Calls Try.prog 10 #[v0, v1] W fun e W' => e = .returned (.bool true) ∧ Below W.heap.size W W' := by
  obtain ⟨c0, rfl, g0⟩ := h0.struct_ Try.underlying62
  obtain ⟨x0, r0, w0⟩ := rSpace_of_cells _ g0
  obtain ⟨x1, rfl, w1⟩ := h1.int_ Try.underlying3
  replace w1 := i64_of_wf w1
  exact law_of_fn (law_fn x0 x1 w0) (.cons (argv_agg r0) (.cons (argv_lit rfl) (.nil)))

set_option maxRecDepth 100000 in
theorem lifted (os : Os) (started : os.Started) (H : Type) (enc : TypeId × Value → H) :
    ReturnsInHanded {} Try.checked os 10 .any (Rows.spaceHearsSpec.pre6 enc Try.prog Try.f10 Rows.spaceHearsRow.domain false) (Rows.spaceHearsSpec.post enc Try.prog Try.f10 false true false false) :=
  law_lifted (C := Try.checked) (s := Rows.spaceHearsSpec) (by kernel_rfl) started (by kernel_rfl) Try.func10
    (ChangeSpec.witness6 (enc := enc) (C := Try.checked) false ⟨#[], #[.agg #[.int .i64 0, .slice none 0 0, .int .i64 0, .slice none 0 0, .slice none 0 0], .int .i64 0], []⟩ 8 (by kernel_rfl) (by kernel_rfl) (by kernel_rfl) (by kernel_rfl))
    (by kernel_rfl) rfl (fun ds hd => by
      match ds, hd with
      | [_, _], _ => rfl) rfl Try.underlying4 (by kernel_rfl)
    (fun W args h => by
      rw [Try.params10] at h
      obtain ⟨v0, l0, e0, h0, r0⟩ := h
      obtain ⟨v1, l1, e1, h1, r1⟩ := r0
      have r1' : l1 = [] := r1
      obtain rfl : args = #[v0, v1] := by
        apply Array.toList_inj.1
        rw [e0, e1, r1']
      exact walk W v0 v1 h0 h1)

theorem over : Rows.spaceHearsRow.holds Try.pinned (OpenSpec.ofChange Rows.spaceHearsSpec) :=
  OpenClaim.holds_of_wide 10 Try.f10 rfl rfl rfl rfl rfl rfl rfl ⟨rfl, rfl, rfl, rfl, rfl⟩ rfl rfl rfl rfl rfl (by kernel_rfl) Try.func10 (by kernel_rfl)
    (of_decide_eq_true (by kernel_rfl)) (by unfold Func.isWrapper; first | (rw [if_pos (by decide +kernel)]; kernel_rfl) | (rw [if_neg (by decide +kernel)]; exact ⟨rfl, rfl⟩))
    (fun os started H enc _ => lifted os started H enc)

theorem proved : Rows.SpaceHearsSaid := over
#print axioms proved

end Go.Proofs.Ytnbbnedpjfanoaa.spaceHears
