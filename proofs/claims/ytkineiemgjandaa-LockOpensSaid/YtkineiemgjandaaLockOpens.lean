/-
  LockOpens: lock.Open answers what P6.4 says, at every argument. No condition.
-/
import Derived.Test.YtkineiemgjandaaLock3
import Derived.Test.YtkineiemgjandaaCells
set_option linter.unusedSimpArgs false
set_option linter.unusedVariables false
namespace Go.Proofs.Ytkineiemgjandaa.lockOpens
open Go.ChangeShapes Go.WideShapes Go.ChangeAt Go.RowKit
set_option maxRecDepth 100000
attribute [local irreducible] Run RunL QStep GStep Fn Less PL

theorem law_fn (key n : Int) (h t : List UInt8) (hh : h.length ≤ 140737488355328) (ht : t.length ≤ 140737488355328) : Fn Try.prog 5 [.lit (.int .u64 key), .lit (.int .i64 n), .ro (h.map encB), .ro (t.map encB)] (.lit (.bool true)) := by
  have h1 := open_fn key n h t hh ht
  have h2 := unlocked_fn key n h t hh ht
  generalize openB key n h t = p at *
  obtain ⟨p1, p2⟩ := p
  dsimp only at h1 h2
  refine fn_of_run (by kernel_rfl) Try.func5 rfl (by kernel_rfl) ?_
  (repeat' first | (refine s_call (h1) (h := ?_)) | (refine p_call (h1) (h := ?_)) | (refine s_call (h2) (h := ?_)) | (refine p_call (h2) (h := ?_)) | refine p_quo (h := ?_) | refine p_rem (h := ?_) | refine r_seq ?_ | refine r_region ?_ | refine r_cond_t rfl ?_ | refine r_cond_f rfl ?_ | refine r_block ?_ | refine r_skip ?_ | refine r_ret ?_ | refine r_exit ?_ | refine l_nil ?_ | refine s_skip (h := ?_) | refine s_nw (h := ?_) | refine s_len (h := ?_) | refine s_lens (h := ?_) | refine s_q (h := ?_) | (refine s_cmp (ht := ?_) (hf := ?_) <;> intro _ <;> try (exfalso; omega)) | refine s_store (h := ?_) | refine s_box (h := ?_) | refine s_alloc (h := ?_) | refine s_quo (h := ?_) | refine s_rem (h := ?_) | refine s_i (h := ?_) | refine s_i (hq := q_index_ro rfl rfl rfl (by first | exact lit0 | exact lit1 | exact lit2 | exact lit3 | rfl) (by simp only [List.length_cons, List.length_nil]; omega) rfl rfl rfl rfl) (h := ?_) | refine r_drawA ?_ | refine p_nil ?_ | refine p_skip (h := ?_) | refine p_nw (h := ?_) | refine p_len (h := ?_) | refine p_lens (h := ?_) | refine p_q (h := ?_) | refine p_qh (h := ?_) | (refine p_cmp (ht := ?_) (hf := ?_) <;> intro _ <;> try (exfalso; omega)) | refine p_store (h := ?_) | refine p_box (h := ?_) | refine p_alloc (h := ?_) | refine p_i (h := ?_) | refine p_ih (h := ?_) | refine p_skip0 (h := ?_) | refine s_skip0 (h := ?_) | refine s_nilc (h := ?_) | refine p_nilc (h := ?_) | refine s_bstr (h := ?_) | refine s_lit (h := ?_) | refine p_lit (h := ?_) | refine p_lit0 (h := ?_) | refine s_lit0 (h := ?_) | refine s_ixa (h := ?_) | refine s_func (h := ?_) | refine p_bstr (h := ?_) | (refine s_seql (ht := ?_) (hf := ?_) <;> intro _ <;> try (exfalso; omega)) | (refine s_sneq (ht := ?_) (hf := ?_) <;> intro _ <;> try (exfalso; omega)) | (refine s_beq (ht := ?_) (hf := ?_) <;> intro _ <;> try (exfalso; omega)) | (refine s_eqs (ht := ?_) (hf := ?_) <;> intro _ <;> try (exfalso; omega)) | (refine p_seql (ht := ?_) (hf := ?_) <;> intro _ <;> try (exfalso; omega)) | (refine p_sneq (ht := ?_) (hf := ?_) <;> intro _ <;> try (exfalso; omega)) | (refine p_beq (ht := ?_) (hf := ?_) <;> intro _ <;> try (exfalso; omega)) | (refine p_eqs (ht := ?_) (hf := ?_) <;> intro _ <;> try (exfalso; omega)) | refine thenQ_n ?_ | refine thenQ_r ?_ | refine thenQ_e ?_ | refine blockQ_n ?_ | refine blockQ_r ?_ | refine blockQ_x ?_ | refine blockQ_e rfl ?_ | refine p_shr (h := ?_) | refine p_shl (h := ?_) | (refine s_bytes (h63 := ?_) (h := ?_); (focus (first | omega | (simp only [List.length_append, List.length_map, List.length_cons, List.length_nil, List.length_take, List.length_drop]; omega)))) | (refine p_bytes (h63 := ?_) (h := ?_); (focus (first | omega | (simp only [List.length_append, List.length_map, List.length_cons, List.length_nil, List.length_take, List.length_drop]; omega)))) | refine s_sidx (h := ?_) | refine p_sidx (h := ?_) | refine s_makeMap (h := ?_) | refine s_insert (h := ?_) | (refine s_sadd rfl ?_ (h := ?_); (focus (first | omega | (simp only [List.length_append, List.length_map, List.length_cons, List.length_nil, List.length_take, List.length_drop]; omega)))) | (refine p_sadd rfl ?_ (h := ?_); (focus (first | omega | (simp only [List.length_append, List.length_map, List.length_cons, List.length_nil, List.length_take, List.length_drop]; omega)))))
  all_goals first
    | exact ends_ (hr := rfl)
    | (exfalso; simp at *; done)

theorem walk (W : World) (v0 : Value) (v1 : Value) (v2 : Value) (v3 : Value) (h0 : ArgIs Try.prog W 29 v0) (h1 : ArgIs Try.prog W 3 v1) (h2 : ArgIs Try.prog W 22 v2) (h3 : ArgIs Try.prog W 22 v3) :
    Calls Try.prog 5 #[v0, v1, v2, v3] W fun e W' => e = .returned (.bool true) ∧ Below W.heap.size W W' := by
  obtain ⟨x0, rfl, w0⟩ := h0.int_ Try.underlying29
  replace w0 := u64_of_wf w0
  obtain ⟨x1, rfl, w1⟩ := h1.int_ Try.underlying3
  replace w1 := i64_of_wf w1
  obtain ⟨a2, n2, b2, rfl, g2⟩ := h2.slice_ Try.underlying22
  obtain ⟨x2, r2, w2, u2⟩ := rd_of_slice (enc := encB) (wf := fun _ => True) (size := 1) (bytes := 1) Try.underlying22 (by kernel_rfl) (by kernel_rfl) (by decide) (fun es h => rdB_of_cells Try.underlying5 es h) g2
  obtain ⟨a3, n3, b3, rfl, g3⟩ := h3.slice_ Try.underlying22
  obtain ⟨x3, r3, w3, u3⟩ := rd_of_slice (enc := encB) (wf := fun _ => True) (size := 1) (bytes := 1) Try.underlying22 (by kernel_rfl) (by kernel_rfl) (by decide) (fun es h => rdB_of_cells Try.underlying5 es h) g3
  exact law_of_fn (law_fn x0 x1 x2 x3 (by omega) (by omega)) (.cons (argv_lit rfl) (.cons (argv_lit rfl) (.cons (argv_ro r2) (.cons (argv_ro r3) (.nil)))))

set_option maxRecDepth 100000 in
theorem lifted (os : Os) (started : os.Started) (H : Type) (enc : TypeId × Value → H) :
    ReturnsInHanded {} Try.checked os 5 .any (Rows.lockOpensSpec.pre6 enc Try.prog Try.f5 Rows.lockOpensRow.domain false) (Rows.lockOpensSpec.post enc Try.prog Try.f5 false true false false) :=
  law_lifted (C := Try.checked) (s := Rows.lockOpensSpec) (by kernel_rfl) started (by kernel_rfl) Try.func5
    (ChangeSpec.witness6 (enc := enc) (C := Try.checked) false ⟨#[], #[.int .u64 0, .int .i64 0, .slice none 0 0, .slice none 0 0], []⟩ 8 (by kernel_rfl) (by kernel_rfl) (by kernel_rfl) (by kernel_rfl))
    (by kernel_rfl) rfl (fun ds hd => by
      match ds, hd with
      | [_, _, _, _], _ => rfl) rfl Try.underlying4 (by kernel_rfl)
    (fun W args h => by
      rw [Try.params5] at h
      obtain ⟨v0, l0, e0, h0, r0⟩ := h
      obtain ⟨v1, l1, e1, h1, r1⟩ := r0
      obtain ⟨v2, l2, e2, h2, r2⟩ := r1
      obtain ⟨v3, l3, e3, h3, r3⟩ := r2
      have r3' : l3 = [] := r3
      obtain rfl : args = #[v0, v1, v2, v3] := by
        apply Array.toList_inj.1
        rw [e0, e1, e2, e3, r3']
      exact walk W v0 v1 v2 v3 h0 h1 h2 h3)

theorem over : Rows.lockOpensRow.holds Try.pinned (OpenSpec.ofChange Rows.lockOpensSpec) :=
  OpenClaim.holds_of_wide 5 Try.f5 rfl rfl rfl rfl rfl rfl rfl ⟨rfl, rfl, rfl, rfl, rfl⟩ rfl rfl rfl rfl rfl (by kernel_rfl) Try.func5 (by kernel_rfl)
    (of_decide_eq_true (by kernel_rfl)) (by unfold Func.isWrapper; first | (rw [if_pos (by decide +kernel)]; kernel_rfl) | (rw [if_neg (by decide +kernel)]; exact ⟨rfl, rfl⟩))
    (fun os started H enc _ => lifted os started H enc)

theorem proved : Rows.LockOpensSaid := over
#print axioms proved

end Go.Proofs.Ytkineiemgjandaa.lockOpens
