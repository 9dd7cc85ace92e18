/-
  GatherTakes: gather.Take answers what P8.4 says, at every argument. No condition.
-/
import Derived.Test.YtfbbfljdpbadfaaGatherTake
import Derived.Test.YtfbbfljdpbadfaaCells
set_option linter.unusedSimpArgs false
set_option linter.unusedVariables false
namespace Go.Proofs.Ytfbbfljdpbadfaa.gatherTakes
open Go.ChangeShapes Go.WideShapes Go.ChangeAt Go.RowKit
set_option maxRecDepth 100000
attribute [local irreducible] Run RunL QStep GStep Fn Less PL

theorem wf_of (g : DGather) (hw : wfGather g) : wfGather (gTake g).1 := by
  have hz : wfGather ⟨0, [], 0, 0⟩ := by unfold wfGather I64; simp
  unfold gTake
  split
  · exact hz
  · rename_i h0
    split
    · rename_i hc
      have h0 : gatherFlt g = 0 := by omega
      have hb := take_bound h0 hc.1
      have hd := hw.1
      refine ⟨by unfold I64 at *; dsimp only; omega, by have := hw.2.1; simp only [List.length_drop]; omega, fun y hy => hw.2.2.1 y (List.mem_of_mem_drop hy), hw.2.2.2.1, hw.2.2.2.2⟩
    · exact hw
theorem law_fn (g : DGather) (hw : wfGather g) : Fn Try.prog 11 [.agg (encGather g)] (.lit (.bool true)) := by
  have h1 := take_fn g hw
  have h2 := takeRef_fn g hw
  have h3 := sameGather_fn _ _ (wf_of g hw) (wf_of g hw)
  rw [yes_of rfl] at h3
  unfold encTake at h1 h2
  generalize gTake g = r at *
  obtain ⟨r, l, o, e⟩ := r
  dsimp only at h1 h2 h3
  have h4 := sameBytes_fn l l
  rw [yes_of rfl] at h4
  refine fn_of_run (by kernel_rfl) Try.func11 rfl (by kernel_rfl) ?_
  (repeat' first | (refine s_call (h1) (h := ?_)) | (refine p_call (h1) (h := ?_)) | (refine s_call (h2) (h := ?_)) | (refine p_call (h2) (h := ?_)) | (refine s_call (h3) (h := ?_)) | (refine p_call (h3) (h := ?_)) | (refine s_call (h4) (h := ?_)) | (refine p_call (h4) (h := ?_)) | refine r_seq ?_ | refine r_region ?_ | refine r_cond_t rfl ?_ | refine r_cond_f rfl ?_ | refine r_block ?_ | refine r_skip ?_ | refine r_ret ?_ | refine r_exit ?_ | refine l_nil ?_ | refine s_skip (h := ?_) | refine s_nw (h := ?_) | refine s_len (h := ?_) | refine s_q (h := ?_) | (refine s_cmp (ht := ?_) (hf := ?_) <;> intro _ <;> try (exfalso; omega)) | refine s_store (h := ?_) | refine s_box (h := ?_) | refine s_alloc (h := ?_) | refine s_quo (h := ?_) | refine s_rem (h := ?_) | refine s_i (h := ?_) | refine r_drawA ?_ | refine p_nil ?_ | refine p_skip (h := ?_) | refine p_nw (h := ?_) | refine p_len (h := ?_) | refine p_q (h := ?_) | refine p_qh (h := ?_) | (refine p_cmp (ht := ?_) (hf := ?_) <;> intro _ <;> try (exfalso; omega)) | refine p_store (h := ?_) | refine p_box (h := ?_) | refine p_alloc (h := ?_) | refine p_i (h := ?_) | refine p_ih (h := ?_) | refine p_skip0 (h := ?_) | refine s_skip0 (h := ?_) | refine s_nilc (h := ?_) | refine p_nilc (h := ?_) | refine s_bstr (h := ?_) | refine s_lit (h := ?_) | refine p_lit (h := ?_) | refine p_lit0 (h := ?_) | refine s_lit0 (h := ?_) | refine p_bstr (h := ?_) | (refine s_seql (ht := ?_) (hf := ?_) <;> intro _ <;> try (exfalso; omega)) | (refine s_sneq (ht := ?_) (hf := ?_) <;> intro _ <;> try (exfalso; omega)) | (refine s_beq (ht := ?_) (hf := ?_) <;> intro _ <;> try (exfalso; omega)) | (refine s_eqs (ht := ?_) (hf := ?_) <;> intro _ <;> try (exfalso; omega)) | (refine p_seql (ht := ?_) (hf := ?_) <;> intro _ <;> try (exfalso; omega)) | (refine p_beq (ht := ?_) (hf := ?_) <;> intro _ <;> try (exfalso; omega)) | refine thenQ_n ?_ | refine thenQ_r ?_ | refine thenQ_e ?_ | refine blockQ_n ?_ | refine blockQ_r ?_ | refine blockQ_x ?_ | refine blockQ_e rfl ?_)
  all_goals first
    | exact ends_ (hr := rfl)
    | (exfalso; simp at *; done)

theorem walk (W : World) (v0 : Value) (h0 : ArgIs Try.prog W 24 v0) :
    Calls Try.prog 11 #[v0] W fun e W' => e = .returned (.bool true) ∧ Below W.heap.size W W' := by
  obtain ⟨c0, rfl, g0⟩ := h0.struct_ Try.underlying24
  obtain ⟨x0, r0, w0⟩ := rGather_of_cells _ g0
  exact law_of_fn (law_fn x0 w0) (.cons (argv_agg r0) (.nil))

set_option maxRecDepth 100000 in
theorem lifted (os : Os) (started : os.Started) (H : Type) (enc : TypeId × Value → H) :
    ReturnsInHanded {} Try.checked os 11 .any (Rows.gatherTakesSpec.pre6 enc Try.prog Try.f11 Rows.gatherTakesRow.domain false) (Rows.gatherTakesSpec.post enc Try.prog Try.f11 false true false false) :=
  law_lifted (C := Try.checked) (s := Rows.gatherTakesSpec) (by kernel_rfl) started (by kernel_rfl) Try.func11
    (ChangeSpec.witness6 (enc := enc) (C := Try.checked) false ⟨#[], #[.agg #[.int .i64 0, .slice none 0 0, .int .i64 0, .int .i64 0]], []⟩ 8 (by kernel_rfl) (by kernel_rfl) (by kernel_rfl) (by kernel_rfl))
    (by kernel_rfl) rfl (fun ds hd => by
      match ds, hd with
      | [_], _ => rfl) rfl Try.underlying4 (by kernel_rfl)
    (fun W args h => by
      rw [Try.params11] at h
      obtain ⟨v0, l0, e0, h0, r0⟩ := h
      have r0' : l0 = [] := r0
      obtain rfl : args = #[v0] := by
        apply Array.toList_inj.1
        rw [e0, r0']
      exact walk W v0 h0)

theorem over : Rows.gatherTakesRow.holds Try.pinned (OpenSpec.ofChange Rows.gatherTakesSpec) :=
  OpenClaim.holds_of_wide 11 Try.f11 rfl rfl rfl rfl rfl rfl rfl ⟨rfl, rfl, rfl, rfl, rfl⟩ rfl rfl rfl rfl rfl (by kernel_rfl) Try.func11 (by kernel_rfl)
    (of_decide_eq_true (by kernel_rfl)) (by unfold Func.isWrapper; first | (rw [if_pos (by decide +kernel)]; kernel_rfl) | (rw [if_neg (by decide +kernel)]; exact ⟨rfl, rfl⟩))
    (fun os started H enc _ => lifted os started H enc)

theorem proved : Rows.GatherTakesSaid := over
#print axioms proved

end Go.Proofs.Ytfbbfljdpbadfaa.gatherTakes
