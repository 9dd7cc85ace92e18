/-
  The laws' sameSender, of a sender and itself.
-/
import Derived.Test.YtnbbnedpjfanoaaSndZ
import Derived.Test.YtnbbnedpjfanoaaSameB
set_option linter.unusedVariables false
set_option linter.unusedSimpArgs false
set_option linter.unusedVariables false
namespace Go.Proofs.Ytnbbnedpjfanoaa
set_option maxRecDepth 100000
attribute [local irreducible] Run RunL QStep GStep Fn Less PL FnM

set_option maxHeartbeats 2000000 in
theorem sameSender_refl (a : DSender) (ha : a.Lost.length * 16 ≤ 140737488351232) (hb : a.Acked.length * 16 ≤ 140737488351232) : Fn Try.prog 33 [.agg (encSender a), .agg (encSender a)] (.lit (.bool true)) := by
  have h1 := sameRanges_fn a.Lost a.Lost (by omega) (by omega)
  have h2 := sameRanges_fn a.Acked a.Acked (by omega) (by omega)
  have h3 := sameBytes_fn a.Data a.Data
  rw [yes_of rfl] at h1 h2 h3
  obtain ⟨data, f0, next, mx, lost, acked, en, ov⟩ := a
  dsimp only [encSender] at *
  cases f0 <;> cases en <;> cases ov
  all_goals refine fn_of_run (by kernel_rfl) Try.func33 rfl (by kernel_rfl) ?_
  all_goals (repeat' first | (refine s_call (h1) (h := ?_)) | (refine p_call (h1) (h := ?_)) | (refine s_call (h2) (h := ?_)) | (refine p_call (h2) (h := ?_)) | (refine s_call (h3) (h := ?_)) | (refine p_call (h3) (h := ?_)) | refine p_quo (h := ?_) | refine p_rem (h := ?_) | refine r_seq ?_ | refine r_region ?_ | refine r_cond_t rfl ?_ | refine r_cond_f rfl ?_ | refine r_block ?_ | refine r_skip ?_ | refine r_ret ?_ | refine r_exit ?_ | refine l_nil ?_ | refine s_skip (h := ?_) | refine s_nw (h := ?_) | refine s_len (h := ?_) | refine s_lens (h := ?_) | refine s_q (h := ?_) | (refine s_cmp (ht := ?_) (hf := ?_) <;> intro _ <;> try (exfalso; omega)) | refine s_store (h := ?_) | refine s_box (h := ?_) | refine s_alloc (h := ?_) | refine s_quo (h := ?_) | refine s_rem (h := ?_) | refine s_i (h := ?_) | refine s_i (hq := q_index_ro rfl rfl rfl (by first | exact lit0 | exact lit1 | exact lit2 | exact lit3 | rfl) (by simp only [List.length_cons, List.length_nil]; omega) rfl rfl rfl rfl) (h := ?_) | refine r_drawA ?_ | refine p_nil ?_ | refine p_skip (h := ?_) | refine p_nw (h := ?_) | refine p_len (h := ?_) | refine p_lens (h := ?_) | refine p_q (h := ?_) | refine p_qh (h := ?_) | (refine p_cmp (ht := ?_) (hf := ?_) <;> intro _ <;> try (exfalso; omega)) | refine p_store (h := ?_) | refine p_box (h := ?_) | refine p_alloc (h := ?_) | refine p_i (h := ?_) | refine p_ih (h := ?_) | refine p_skip0 (h := ?_) | refine s_skip0 (h := ?_) | refine s_nilc (h := ?_) | refine p_nilc (h := ?_) | refine s_bstr (h := ?_) | refine s_lit (h := ?_) | refine p_lit (h := ?_) | refine p_lit0 (h := ?_) | refine s_lit0 (h := ?_) | refine s_ixa (h := ?_) | refine s_func (h := ?_) | refine p_bstr (h := ?_) | (refine s_seql (ht := ?_) (hf := ?_) <;> intro hb_ <;> try (exfalso; first | omega | (simp at hb_; done) | exact absurd hb_ (by assumption) | exact absurd (by assumption) hb_)) | (refine s_sneq (ht := ?_) (hf := ?_) <;> intro hb_ <;> try (exfalso; first | omega | (simp at hb_; done) | exact absurd hb_ (by assumption) | exact absurd (by assumption) hb_)) | (refine s_eqs (ht := ?_) (hf := ?_) <;> intro hb_ <;> try (exfalso; first | omega | (simp at hb_; done) | exact absurd hb_ (by assumption) | exact absurd (by assumption) hb_)) | (refine p_seql (ht := ?_) (hf := ?_) <;> intro hb_ <;> try (exfalso; first | omega | (simp at hb_; done) | exact absurd hb_ (by assumption) | exact absurd (by assumption) hb_)) | (refine p_sneq (ht := ?_) (hf := ?_) <;> intro hb_ <;> try (exfalso; first | omega | (simp at hb_; done) | exact absurd hb_ (by assumption) | exact absurd (by assumption) hb_)) | (refine p_eqs (ht := ?_) (hf := ?_) <;> intro hb_ <;> try (exfalso; first | omega | (simp at hb_; done) | exact absurd hb_ (by assumption) | exact absurd (by assumption) hb_)) | refine thenQ_n ?_ | refine thenQ_r ?_ | refine thenQ_e ?_ | refine blockQ_n ?_ | refine blockQ_r ?_ | refine blockQ_x ?_ | refine blockQ_e rfl ?_ | refine p_shr (h := ?_) | refine p_shl (h := ?_) | (refine s_bytes (h63 := ?_) (h := ?_); (focus (first | omega | (simp only [List.length_append, List.length_map, List.length_cons, List.length_nil, List.length_take, List.length_drop]; omega)))) | (refine p_bytes (h63 := ?_) (h := ?_); (focus (first | omega | (simp only [List.length_append, List.length_map, List.length_cons, List.length_nil, List.length_take, List.length_drop]; omega)))) | refine s_sidx (h := ?_) | refine p_sidx (h := ?_) | refine s_makeMap (h := ?_) | refine s_insert (h := ?_) | (refine s_beq (ht := ?_) (hf := ?_) <;> intro hb_ <;> try (exfalso; simp at hb_; done)) | (refine p_beq (ht := ?_) (hf := ?_) <;> intro hb_ <;> try (exfalso; simp at hb_; done)) | (refine s_bne (ht := ?_) (hf := ?_) <;> intro hb_ <;> try (exfalso; simp at hb_; done)) | (refine p_bne (ht := ?_) (hf := ?_) <;> intro hb_ <;> try (exfalso; simp at hb_; done)) | (refine s_sadd rfl ?_ (h := ?_); (focus (first | omega | (simp only [List.length_append, List.length_map, List.length_cons, List.length_nil, List.length_take, List.length_drop]; omega)))) | (refine p_sadd rfl ?_ (h := ?_); (focus (first | omega | (simp only [List.length_append, List.length_map, List.length_cons, List.length_nil, List.length_take, List.length_drop]; omega)))))
  all_goals first
    | exact ends_ (hr := rfl)
    | skip
end Go.Proofs.Ytnbbnedpjfanoaa
