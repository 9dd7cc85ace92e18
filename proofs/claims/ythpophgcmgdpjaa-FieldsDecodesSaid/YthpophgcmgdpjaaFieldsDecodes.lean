/-
  FieldsDecodes: fields.Decode answers what P15.4 says, at every argument. No condition.
-/
import Derived.Test.YthpophgcmgdpjaaGo
import Derived.Test.YthpophgcmgdpjaaFldDs
import Derived.Test.YthpophgcmgdpjaaSameTab
import Derived.Test.YthpophgcmgdpjaaCells
set_option linter.unusedSimpArgs false
set_option linter.unusedVariables false
namespace Go.Proofs.Ythpophgcmgdpjaa.fieldsDecodes
open Go.ChangeShapes Go.WideShapes Go.ChangeAt Go.RowKit
set_option maxRecDepth 100000
attribute [local irreducible] Run RunL QStep GStep Fn Less PL FnM

set_option maxHeartbeats 2000000 in
theorem law_fn (t : DTable) (b : List UInt8) (hw : wfTable t) (hb : b.length ≤ 1000000000000000) : Fn Try.prog 3 [.agg (encTable t), .ro (b.map encB)] (.lit (.bool true)) := by
  have h1 := decodeF_fn t b hw hb
  have h2 := fieldsOf_fn t b hw hb
  have hl := deR_len t b
  have h3 := sameFields_fn (deR t b).1 (deR t b).1 (by omega) (by omega)
  rw [yes_of rfl] at h3
  clear hl
  generalize deR t b = r at *
  obtain ⟨r, e⟩ := r
  dsimp only at h1 h2 h3
  refine fn_of_run (by kernel_rfl) Try.func3 rfl (by kernel_rfl) ?_
  (repeat' first | (refine s_call (h1) (h := ?_)) | (refine p_call (h1) (h := ?_)) | (refine s_call (h2) (h := ?_)) | (refine p_call (h2) (h := ?_)) | (refine s_call (h3) (h := ?_)) | (refine p_call (h3) (h := ?_)) | (refine go_ ?_; ((repeat' first | exact True.intro | refine Two.mk ?_ ?_); all_goals intros)) | fail "")
  all_goals first
    | exact ends_ (hr := rfl)
    | (exfalso; simp at *; done)

theorem walk (W : World) (v0 : Value) (v1 : Value) (h0 : ArgIs Try.prog W 24 v0) (h1 : ArgIs Try.prog W 25 v1) :
    Calls Try.prog 3 #[v0, v1] W fun e W' => e = .returned (.bool true) ∧ Below W.heap.size W W' := by
  obtain ⟨c0, rfl, g0⟩ := h0.struct_ Try.underlying24
  obtain ⟨x0, r0, w0⟩ := rTable_of_cells _ g0
  obtain ⟨a1, n1, b1, rfl, g1⟩ := h1.slice_ Try.underlying25
  obtain ⟨x1, r1, w1, u1⟩ := rd_of_slice (enc := encB) (wf := fun _ => True) (size := 1) (bytes := 1) Try.underlying25 (by kernel_rfl) (by kernel_rfl) (by decide) (fun es h => rdB_of_cells Try.underlying5 es h) g1
  exact law_of_fn (law_fn x0 x1 w0 (by omega)) (.cons (argv_agg r0) (.cons (argv_ro r1) (.nil)))

set_option maxRecDepth 100000 in
theorem lifted (os : Os) (started : os.Started) (H : Type) (enc : TypeId × Value → H) :
    ReturnsInHanded {} Try.checked os 3 .any (Rows.fieldsDecodesSpec.pre6 enc Try.prog Try.f3 Rows.fieldsDecodesRow.domain false) (Rows.fieldsDecodesSpec.post enc Try.prog Try.f3 false true false false) :=
  law_lifted (C := Try.checked) (s := Rows.fieldsDecodesSpec) (by kernel_rfl) started (by kernel_rfl) Try.func3
    (ChangeSpec.witness6 (enc := enc) (C := Try.checked) false ⟨#[], #[.agg #[.int .i64 0, .int .i64 0, .slice none 0 0], .slice none 0 0], []⟩ 8 (by kernel_rfl) (by kernel_rfl) (by kernel_rfl) (by kernel_rfl))
    (by kernel_rfl) rfl (fun ds hd => by
      match ds, hd with
      | [_, _], _ => rfl) rfl Try.underlying4 (by kernel_rfl)
    (fun W args h => by
      rw [Try.params3] at h
      obtain ⟨v0, l0, e0, h0, r0⟩ := h
      obtain ⟨v1, l1, e1, h1, r1⟩ := r0
      have r1' : l1 = [] := r1
      obtain rfl : args = #[v0, v1] := by
        apply Array.toList_inj.1
        rw [e0, e1, r1']
      exact walk W v0 v1 h0 h1)

theorem over : Rows.fieldsDecodesRow.holds Try.pinned (OpenSpec.ofChange Rows.fieldsDecodesSpec) :=
  OpenClaim.holds_of_wide 3 Try.f3 rfl rfl rfl rfl rfl rfl rfl ⟨rfl, rfl, rfl, rfl, rfl⟩ rfl rfl rfl rfl rfl (by kernel_rfl) Try.func3 (by kernel_rfl)
    (of_decide_eq_true (by kernel_rfl)) (by unfold Func.isWrapper; first | (rw [if_pos (by decide +kernel)]; kernel_rfl) | (rw [if_neg (by decide +kernel)]; exact ⟨rfl, rfl⟩))
    (fun os started H enc _ => lifted os started H enc)

theorem proved : Rows.FieldsDecodesSaid := over
#print axioms proved

end Go.Proofs.Ythpophgcmgdpjaa.fieldsDecodes
