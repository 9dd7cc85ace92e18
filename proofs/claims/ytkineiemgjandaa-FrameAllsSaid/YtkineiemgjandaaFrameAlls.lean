/-
  FrameAlls: frame.All answers what P4.5 says, at every argument. No condition.
-/
import Derived.Test.YtkineiemgjandaaFrAl
import Derived.Test.YtkineiemgjandaaCells
set_option linter.unusedSimpArgs false
set_option linter.unusedVariables false
namespace Go.Proofs.Ytkineiemgjandaa.frameAlls
open Go.ChangeShapes Go.WideShapes Go.ChangeAt Go.RowKit
set_option maxRecDepth 100000
attribute [local irreducible] Run RunL QStep GStep Fn Less PL

theorem law_fn (b : List UInt8) (hb : b.length ≤ 1000000000000000) : Fn Try.prog 14 [.ro (b.map encB)] (.lit (.bool true)) := by
  have h1 := all_fn b hb
  have h2 := framesOf_fn b hb
  have hs := alRun_small (m := 12) (out := []) (s := b) (fun f hf => (by cases hf)) (by simp)
  rw [show alRun 12 [] b = alD b from rfl] at hs
  generalize alD b = q at *
  obtain ⟨l, e⟩ := q
  dsimp only at hs
  have h3 := sameFrames_fn l hs.1 hs.2
  unfold encAl at h1 h2
  dsimp only at h1 h2
  refine fn_of_run (by kernel_rfl) Try.func14 rfl (by kernel_rfl) ?_
  (repeat' first | (refine s_call (h1) (h := ?_)) | (refine p_call (h1) (h := ?_)) | (refine s_call (h2) (h := ?_)) | (refine p_call (h2) (h := ?_)) | (refine s_call (h3) (h := ?_)) | (refine p_call (h3) (h := ?_)) | refine p_quo (h := ?_) | refine p_rem (h := ?_) | refine r_seq ?_ | refine r_region ?_ | refine r_cond_t rfl ?_ | refine r_cond_f rfl ?_ | refine r_block ?_ | refine r_skip ?_ | refine r_ret ?_ | refine r_exit ?_ | refine l_nil ?_ | refine s_skip (h := ?_) | refine s_nw (h := ?_) | refine s_len (h := ?_) | refine s_lens (h := ?_) | refine s_q (h := ?_) | (refine s_cmp (ht := ?_) (hf := ?_) <;> intro _ <;> try (exfalso; omega)) | refine s_store (h := ?_) | refine s_box (h := ?_) | refine s_alloc (h := ?_) | refine s_quo (h := ?_) | refine s_rem (h := ?_) | refine s_i (h := ?_) | refine s_i (hq := q_index_ro rfl rfl rfl (by first | exact lit0 | exact lit1 | exact lit2 | exact lit3 | rfl) (by simp only [List.length_cons, List.length_nil]; omega) rfl rfl rfl rfl) (h := ?_) | refine r_drawA ?_ | refine p_nil ?_ | refine p_skip (h := ?_) | refine p_nw (h := ?_) | refine p_len (h := ?_) | refine p_lens (h := ?_) | refine p_q (h := ?_) | refine p_qh (h := ?_) | (refine p_cmp (ht := ?_) (hf := ?_) <;> intro _ <;> try (exfalso; omega)) | refine p_store (h := ?_) | refine p_box (h := ?_) | refine p_alloc (h := ?_) | refine p_i (h := ?_) | refine p_ih (h := ?_) | refine p_skip0 (h := ?_) | refine s_skip0 (h := ?_) | refine s_nilc (h := ?_) | refine p_nilc (h := ?_) | refine s_bstr (h := ?_) | refine s_lit (h := ?_) | refine p_lit (h := ?_) | refine p_lit0 (h := ?_) | refine s_lit0 (h := ?_) | refine s_ixa (h := ?_) | refine s_func (h := ?_) | refine p_bstr (h := ?_) | (refine s_seql (ht := ?_) (hf := ?_) <;> intro hb_ <;> try (exfalso; first | omega | (simp at hb_; done) | exact absurd hb_ (by assumption) | exact absurd (by assumption) hb_)) | (refine s_sneq (ht := ?_) (hf := ?_) <;> intro hb_ <;> try (exfalso; first | omega | (simp at hb_; done) | exact absurd hb_ (by assumption) | exact absurd (by assumption) hb_)) | (refine s_eqs (ht := ?_) (hf := ?_) <;> intro hb_ <;> try (exfalso; first | omega | (simp at hb_; done) | exact absurd hb_ (by assumption) | exact absurd (by assumption) hb_)) | (refine p_seql (ht := ?_) (hf := ?_) <;> intro hb_ <;> try (exfalso; first | omega | (simp at hb_; done) | exact absurd hb_ (by assumption) | exact absurd (by assumption) hb_)) | (refine p_sneq (ht := ?_) (hf := ?_) <;> intro hb_ <;> try (exfalso; first | omega | (simp at hb_; done) | exact absurd hb_ (by assumption) | exact absurd (by assumption) hb_)) | (refine p_eqs (ht := ?_) (hf := ?_) <;> intro hb_ <;> try (exfalso; first | omega | (simp at hb_; done) | exact absurd hb_ (by assumption) | exact absurd (by assumption) hb_)) | refine thenQ_n ?_ | refine thenQ_r ?_ | refine thenQ_e ?_ | refine blockQ_n ?_ | refine blockQ_r ?_ | refine blockQ_x ?_ | refine blockQ_e rfl ?_ | refine p_shr (h := ?_) | refine p_shl (h := ?_) | (refine s_bytes (h63 := ?_) (h := ?_); (focus (first | omega | (simp only [List.length_append, List.length_map, List.length_cons, List.length_nil, List.length_take, List.length_drop]; omega)))) | (refine p_bytes (h63 := ?_) (h := ?_); (focus (first | omega | (simp only [List.length_append, List.length_map, List.length_cons, List.length_nil, List.length_take, List.length_drop]; omega)))) | refine s_sidx (h := ?_) | refine p_sidx (h := ?_) | refine s_makeMap (h := ?_) | refine s_insert (h := ?_) | (refine s_beq (ht := ?_) (hf := ?_) <;> intro hb_ <;> try (exfalso; simp at hb_; done)) | (refine p_beq (ht := ?_) (hf := ?_) <;> intro hb_ <;> try (exfalso; simp at hb_; done)) | (refine s_bne (ht := ?_) (hf := ?_) <;> intro hb_ <;> try (exfalso; simp at hb_; done)) | (refine p_bne (ht := ?_) (hf := ?_) <;> intro hb_ <;> try (exfalso; simp at hb_; done)) | (refine s_sadd rfl ?_ (h := ?_); (focus (first | omega | (simp only [List.length_append, List.length_map, List.length_cons, List.length_nil, List.length_take, List.length_drop]; omega)))) | (refine p_sadd rfl ?_ (h := ?_); (focus (first | omega | (simp only [List.length_append, List.length_map, List.length_cons, List.length_nil, List.length_take, List.length_drop]; omega)))))
  all_goals first
    | exact ends_ (hr := rfl)
    | (exfalso; simp at *; done)

theorem walk (W : World) (v0 : Value) (h0 : ArgIs Try.prog W 22 v0) :
    Calls Try.prog 14 #[v0] W fun e W' => e = .returned (.bool true) ∧ Below W.heap.size W W' := by
  obtain ⟨a0, n0, b0, rfl, g0⟩ := h0.slice_ Try.underlying22
  obtain ⟨x0, r0, w0, u0⟩ := rd_of_slice (enc := encB) (wf := fun _ => True) (size := 1) (bytes := 1) Try.underlying22 (by kernel_rfl) (by kernel_rfl) (by decide) (fun es h => rdB_of_cells Try.underlying5 es h) g0
  exact law_of_fn (law_fn x0 (by omega)) (.cons (argv_ro r0) (.nil))

set_option maxRecDepth 100000 in
theorem lifted (os : Os) (started : os.Started) (H : Type) (enc : TypeId × Value → H) :
    ReturnsInHanded {} Try.checked os 14 .any (Rows.frameAllsSpec.pre6 enc Try.prog Try.f14 Rows.frameAllsRow.domain false) (Rows.frameAllsSpec.post enc Try.prog Try.f14 false true false false) :=
  law_lifted (C := Try.checked) (s := Rows.frameAllsSpec) (by kernel_rfl) started (by kernel_rfl) Try.func14
    (ChangeSpec.witness6 (enc := enc) (C := Try.checked) false ⟨#[], #[.slice none 0 0], []⟩ 8 (by kernel_rfl) (by kernel_rfl) (by kernel_rfl) (by kernel_rfl))
    (by kernel_rfl) rfl (fun ds hd => by
      match ds, hd with
      | [_], _ => rfl) rfl Try.underlying4 (by kernel_rfl)
    (fun W args h => by
      rw [Try.params14] at h
      obtain ⟨v0, l0, e0, h0, r0⟩ := h
      have r0' : l0 = [] := r0
      obtain rfl : args = #[v0] := by
        apply Array.toList_inj.1
        rw [e0, r0']
      exact walk W v0 h0)

theorem over : Rows.frameAllsRow.holds Try.pinned (OpenSpec.ofChange Rows.frameAllsSpec) :=
  OpenClaim.holds_of_wide 14 Try.f14 rfl rfl rfl rfl rfl rfl rfl ⟨rfl, rfl, rfl, rfl, rfl⟩ rfl rfl rfl rfl rfl (by kernel_rfl) Try.func14 (by kernel_rfl)
    (of_decide_eq_true (by kernel_rfl)) (by unfold Func.isWrapper; first | (rw [if_pos (by decide +kernel)]; kernel_rfl) | (rw [if_neg (by decide +kernel)]; exact ⟨rfl, rfl⟩))
    (fun os started H enc _ => lifted os started H enc)

theorem proved : Rows.FrameAllsSaid := over
#print axioms proved

end Go.Proofs.Ytkineiemgjandaa.frameAlls
