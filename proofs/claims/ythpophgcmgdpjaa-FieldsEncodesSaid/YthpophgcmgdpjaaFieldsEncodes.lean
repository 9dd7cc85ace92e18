/-
  FieldsEncodes: fields.Check and fields.Encode answer what P15.1 to P15.3 say, at every argument. No condition.
-/
import Derived.Test.YthpophgcmgdpjaaGo
import Derived.Test.YthpophgcmgdpjaaEnA
import Derived.Test.YthpophgcmgdpjaaEnB
import Derived.Test.YthpophgcmgdpjaaKnownF
import Derived.Test.YthpophgcmgdpjaaSameTab
import Derived.Test.YthpophgcmgdpjaaCells
set_option linter.unusedSimpArgs false
set_option linter.unusedVariables false
namespace Go.Proofs.Ythpophgcmgdpjaa.fieldsEncodes
open Go.ChangeShapes Go.WideShapes Go.ChangeAt Go.RowKit
set_option maxRecDepth 100000
attribute [local irreducible] Run RunL QStep GStep Fn Less PL FnM

theorem enR_wf (t : DTable) (l : List DField) (ahead : Bool) : wfTable (enR t l ahead).1 := by
  have hz : wfTable tabZero := by unfold wfTable tabZero I64; simp
  unfold enR
  rcases tabFlt_cases t with ⟨h0, hok⟩ | ⟨h0, hbad⟩
  · rw [if_neg (by omega)]
    by_cases hf0 : fldsFlt l = 0
    · rw [if_neg (by omega)]
      obtain ⟨hl8, hfo⟩ := fldsFlt_ok hf0
      exact tabOk_wf (enAt_ok (a := ahead) hok hfo l.length (Nat.le_refl _)).1
    · rw [if_pos hf0]; exact hz
  · rw [if_pos (by omega)]; exact hz
set_option maxHeartbeats 2000000 in
theorem law_fn (t : DTable) (l : List DField) (ahead : Bool) (hw : wfTable t) (hl : ∀ y, y ∈ l → wfField y) (hll : l.length * 32 ≤ 140737488355328) : Fn Try.prog 4 [.agg (encTable t), .ro (l.map encField), .lit (.bool ahead)] (.lit (.bool true)) := by
  have h1 := fldsCheck_fn l hl hll
  have h2 := fldsFault_fn l hl hll
  have h3 := encodeF_fn t l ahead hw hl hll
  have h4 := fieldsBytes_fn t l ahead hw hl hll
  have h5 := sameTable_fn _ _ (enR_wf t l ahead) (enR_wf t l ahead)
  rw [yes_of rfl] at h5
  have h6 := known_fn
  have h7 := knownRef_fn
  have h8 := sameFields_fn knownL knownL (by rw [knownL_len]; omega) (by rw [knownL_len]; omega)
  rw [yes_of rfl] at h8
  generalize knownL = kl at *
  generalize fldsFlt l = c at *
  generalize enR t l ahead = r at *
  obtain ⟨r, a, b, e⟩ := r
  unfold encEn at h3
  unfold encEb at h4
  dsimp only at *
  refine fn_of_run (by kernel_rfl) Try.func4 rfl (by kernel_rfl) ?_
  (repeat' first | (refine s_call (h1) (h := ?_)) | (refine p_call (h1) (h := ?_)) | (refine s_call (h2) (h := ?_)) | (refine p_call (h2) (h := ?_)) | (refine s_call (h3) (h := ?_)) | (refine p_call (h3) (h := ?_)) | (refine s_call (h4) (h := ?_)) | (refine p_call (h4) (h := ?_)) | (refine s_call (h5) (h := ?_)) | (refine p_call (h5) (h := ?_)) | (refine s_call (h6) (h := ?_)) | (refine p_call (h6) (h := ?_)) | (refine s_call (h7) (h := ?_)) | (refine p_call (h7) (h := ?_)) | (refine s_call (h8) (h := ?_)) | (refine p_call (h8) (h := ?_)) | (refine go_ ?_; ((repeat' first | exact True.intro | refine Two.mk ?_ ?_); all_goals intros)) | fail "")
  all_goals first
    | exact ends_ (hr := rfl)
    | (exfalso; simp at *; done)
    | skip

theorem walk (W : World) (v0 : Value) (v1 : Value) (v2 : Value) (h0 : ArgIs Try.prog W 24 v0) (h1 : ArgIs Try.prog W 22 v1) (h2 : ArgIs Try.prog W 4 v2) :
    Calls Try.prog 4 #[v0, v1, v2] W fun e W' => e = .returned (.bool true) ∧ Below W.heap.size W W' := by
  obtain ⟨c0, rfl, g0⟩ := h0.struct_ Try.underlying24
  obtain ⟨x0, r0, w0⟩ := rTable_of_cells _ g0
  obtain ⟨a1, n1, b1, rfl, g1⟩ := h1.slice_ Try.underlying22
  obtain ⟨x1, r1, w1, u1⟩ := rd_of_slice (enc := encField) (wf := wfField) (size := 2) (bytes := 32) Try.underlying22 (by kernel_rfl) (by kernel_rfl) (by decide) (fun es h => rField_of_cells es h) g1
  obtain ⟨x2, rfl⟩ := h2.bool_ Try.underlying4
  exact law_of_fn (law_fn x0 x1 x2 w0 u1 (by omega)) (.cons (argv_agg r0) (.cons (argv_ro r1) (.cons (argv_lit rfl) (.nil))))

set_option maxRecDepth 100000 in
theorem lifted (os : Os) (started : os.Started) (H : Type) (enc : TypeId × Value → H) :
    ReturnsInHanded {} Try.checked os 4 .any (Rows.fieldsEncodesSpec.pre6 enc Try.prog Try.f4 Rows.fieldsEncodesRow.domain false) (Rows.fieldsEncodesSpec.post enc Try.prog Try.f4 false true false false) :=
  law_lifted (C := Try.checked) (s := Rows.fieldsEncodesSpec) (by kernel_rfl) started (by kernel_rfl) Try.func4
    (ChangeSpec.witness6 (enc := enc) (C := Try.checked) false ⟨#[], #[.agg #[.int .i64 0, .int .i64 0, .slice none 0 0], .slice none 0 0, .bool false], []⟩ 8 (by kernel_rfl) (by kernel_rfl) (by kernel_rfl) (by kernel_rfl))
    (by kernel_rfl) rfl (fun ds hd => by
      match ds, hd with
      | [_, _, _], _ => rfl) rfl Try.underlying4 (by kernel_rfl)
    (fun W args h => by
      rw [Try.params4] at h
      obtain ⟨v0, l0, e0, h0, r0⟩ := h
      obtain ⟨v1, l1, e1, h1, r1⟩ := r0
      obtain ⟨v2, l2, e2, h2, r2⟩ := r1
      have r2' : l2 = [] := r2
      obtain rfl : args = #[v0, v1, v2] := by
        apply Array.toList_inj.1
        rw [e0, e1, e2, r2']
      exact walk W v0 v1 v2 h0 h1 h2)

theorem over : Rows.fieldsEncodesRow.holds Try.pinned (OpenSpec.ofChange Rows.fieldsEncodesSpec) :=
  OpenClaim.holds_of_wide 4 Try.f4 rfl rfl rfl rfl rfl rfl rfl ⟨rfl, rfl, rfl, rfl, rfl⟩ rfl rfl rfl rfl rfl (by kernel_rfl) Try.func4 (by kernel_rfl)
    (of_decide_eq_true (by kernel_rfl)) (by unfold Func.isWrapper; first | (rw [if_pos (by decide +kernel)]; kernel_rfl) | (rw [if_neg (by decide +kernel)]; exact ⟨rfl, rfl⟩))
    (fun os started H enc _ => lifted os started H enc)

theorem proved : Rows.FieldsEncodesSaid := over
#print axioms proved

end Go.Proofs.Ythpophgcmgdpjaa.fieldsEncodes
