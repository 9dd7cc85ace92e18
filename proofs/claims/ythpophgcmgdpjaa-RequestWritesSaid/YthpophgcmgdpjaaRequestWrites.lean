/-
  RequestWrites: request.Check and request.Write answer what P16.1 and P16.2 say, at every argument. No condition.
-/
import Derived.Test.YthpophgcmgdpjaaGo
import Derived.Test.YthpophgcmgdpjaaReqW
import Derived.Test.YthpophgcmgdpjaaSameTab
import Derived.Test.YthpophgcmgdpjaaCells
set_option linter.unusedSimpArgs false
set_option linter.unusedVariables false
namespace Go.Proofs.Ythpophgcmgdpjaa.requestWrites
open Go.ChangeShapes Go.WideShapes Go.ChangeAt Go.RowKit
set_option maxRecDepth 100000
attribute [local irreducible] Run RunL QStep GStep Fn Less PL FnM

theorem enR_wf (t : DTable) (l : List DField) (ahead : Bool) : wfTable (enR t l ahead).1 := by
  have hz : wfTable tabZero := by unfold wfTable tabZero I64; simp
  unfold enR
  rcases tabFlt_cases t with ⟨h0, hok⟩ | ⟨h0, hbad⟩
  · rw [if_neg (by omega)]
    by_cases hf0 : fldsFlt l = 0
    · rw [if_neg (by omega)]
      obtain ⟨hl8, hfo⟩ := fldsFlt_ok hf0
      exact tabOk_wf (enAt_ok (a := ahead) hok hfo l.length (Nat.le_refl _)).1
    · rw [if_pos hf0]; exact hz
  · rw [if_pos (by omega)]; exact hz
theorem reqW_wf (t : DTable) (r : DRequest) (ahead : Bool) : wfTable (reqW t r ahead).1 := by
  have hz : wfTable tabZero := by unfold wfTable tabZero I64; simp
  unfold reqW
  split
  · exact hz
  · split
    · exact hz
    · split
      · exact hz
      · exact enR_wf t r.Fields ahead
set_option maxHeartbeats 2000000 in
theorem law_fn (t : DTable) (r : DRequest) (ahead : Bool) (hw : wfTable t) (hr : wfRequest r) : Fn Try.prog 6 [.agg (encTable t), .agg (encRequest r), .lit (.bool ahead)] (.lit (.bool true)) := by
  have h1 := reqCheck_fn r.Fields hr.2.1 (by have := hr.1; omega)
  have h2 := reqFault_fn r.Fields hr.2.1 (by have := hr.1; omega)
  have h3 := reqWrite_fn t r ahead hw hr
  have h4 := reqBytes_fn t r ahead hw hr
  have h5 := sameTable_fn _ _ (reqW_wf t r ahead) (reqW_wf t r ahead)
  rw [yes_of rfl] at h5
  generalize reqFlt r.Fields = c at *
  generalize reqW t r ahead = x at *
  obtain ⟨x, a, b, e⟩ := x
  unfold encRw at h3
  unfold encRb at h4
  dsimp only at *
  refine fn_of_run (by kernel_rfl) Try.func6 rfl (by kernel_rfl) ?_
  (repeat' first | (refine s_call (h1) (h := ?_)) | (refine p_call (h1) (h := ?_)) | (refine s_call (h2) (h := ?_)) | (refine p_call (h2) (h := ?_)) | (refine s_call (h3) (h := ?_)) | (refine p_call (h3) (h := ?_)) | (refine s_call (h4) (h := ?_)) | (refine p_call (h4) (h := ?_)) | (refine s_call (h5) (h := ?_)) | (refine p_call (h5) (h := ?_)) | (refine go_ ?_; ((repeat' first | exact True.intro | refine Two.mk ?_ ?_); all_goals intros)) | fail "")
  all_goals first
    | exact ends_ (hr := rfl)
    | (exfalso; simp at *; done)
    | skip

theorem walk (W : World) (v0 : Value) (v1 : Value) (v2 : Value) (h0 : ArgIs Try.prog W 24 v0) (h1 : ArgIs Try.prog W 46 v1) (h2 : ArgIs Try.prog W 4 v2) :
    Calls Try.prog 6 #[v0, v1, v2] W fun e W' => e = .returned (.bool true) ∧ Below W.heap.size W W' := by
  obtain ⟨c0, rfl, g0⟩ := h0.struct_ Try.underlying24
  obtain ⟨x0, r0, w0⟩ := rTable_of_cells _ g0
  obtain ⟨c1, rfl, g1⟩ := h1.struct_ Try.underlying46
  obtain ⟨x1, r1, w1⟩ := rRequest_of_cells _ g1
  obtain ⟨x2, rfl⟩ := h2.bool_ Try.underlying4
  exact law_of_fn (law_fn x0 x1 x2 w0 w1) (.cons (argv_agg r0) (.cons (argv_agg r1) (.cons (argv_lit rfl) (.nil))))

set_option maxRecDepth 100000 in
theorem lifted (os : Os) (started : os.Started) (H : Type) (enc : TypeId × Value → H) :
    ReturnsInHanded {} Try.checked os 6 .any (Rows.requestWritesSpec.pre6 enc Try.prog Try.f6 Rows.requestWritesRow.domain false) (Rows.requestWritesSpec.post enc Try.prog Try.f6 false true false false) :=
  law_lifted (C := Try.checked) (s := Rows.requestWritesSpec) (by kernel_rfl) started (by kernel_rfl) Try.func6
    (ChangeSpec.witness6 (enc := enc) (C := Try.checked) false ⟨#[], #[.agg #[.int .i64 0, .int .i64 0, .slice none 0 0], .agg #[.slice none 0 0, .slice none 0 0], .bool false], []⟩ 8 (by kernel_rfl) (by kernel_rfl) (by kernel_rfl) (by kernel_rfl))
    (by kernel_rfl) rfl (fun ds hd => by
      match ds, hd with
      | [_, _, _], _ => rfl) rfl Try.underlying4 (by kernel_rfl)
    (fun W args h => by
      rw [Try.params6] at h
      obtain ⟨v0, l0, e0, h0, r0⟩ := h
      obtain ⟨v1, l1, e1, h1, r1⟩ := r0
      obtain ⟨v2, l2, e2, h2, r2⟩ := r1
      have r2' : l2 = [] := r2
      obtain rfl : args = #[v0, v1, v2] := by
        apply Array.toList_inj.1
        rw [e0, e1, e2, r2']
      exact walk W v0 v1 v2 h0 h1 h2)

theorem over : Rows.requestWritesRow.holds Try.pinned (OpenSpec.ofChange Rows.requestWritesSpec) :=
  OpenClaim.holds_of_wide 6 Try.f6 rfl rfl rfl rfl rfl rfl rfl ⟨rfl, rfl, rfl, rfl, rfl⟩ rfl rfl rfl rfl rfl (by kernel_rfl) Try.func6 (by kernel_rfl)
    (of_decide_eq_true (by kernel_rfl)) (by unfold Func.isWrapper; first | (rw [if_pos (by decide +kernel)]; kernel_rfl) | (rw [if_neg (by decide +kernel)]; exact ⟨rfl, rfl⟩))
    (fun os started H enc _ => lifted os started H enc)

theorem proved : Rows.RequestWritesSaid := over
#print axioms proved

end Go.Proofs.Ythpophgcmgdpjaa.requestWrites
