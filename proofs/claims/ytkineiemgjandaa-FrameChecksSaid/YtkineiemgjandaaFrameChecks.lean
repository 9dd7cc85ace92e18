/-
  FrameChecks: frame.Check answers what P4.2 says, at every argument. No condition.
-/
import Derived.Test.YtkineiemgjandaaFrF
import Derived.Test.YtkineiemgjandaaCells
set_option linter.unusedSimpArgs false
set_option linter.unusedVariables false
namespace Go.Proofs.Ytkineiemgjandaa.frameChecks
open Go.ChangeShapes Go.WideShapes Go.ChangeAt Go.RowKit
set_option maxRecDepth 100000
attribute [local irreducible] Run RunL QStep GStep Fn Less PL

theorem walk (W : World) (v0 : Value) (h0 : ArgIs Try.prog W 49 v0) :
    Calls Try.prog 9 #[v0] W fun e W' => e = .returned (.bool true) ∧ Below W.heap.size W W' := by
  obtain ⟨c0, rfl, g0⟩ := h0.struct_ Try.underlying49
  obtain ⟨x0, r0, w0⟩ := rFrame_of_cells _ g0
  exact law_of_fn (frameChecks_law x0 w0) (.cons (argv_agg r0) (.nil))

set_option maxRecDepth 100000 in
theorem lifted (os : Os) (started : os.Started) (H : Type) (enc : TypeId × Value → H) :
    ReturnsInHanded {} Try.checked os 9 .any (Rows.frameChecksSpec.pre6 enc Try.prog Try.f9 Rows.frameChecksRow.domain false) (Rows.frameChecksSpec.post enc Try.prog Try.f9 false true false false) :=
  law_lifted (C := Try.checked) (s := Rows.frameChecksSpec) (by kernel_rfl) started (by kernel_rfl) Try.func9
    (ChangeSpec.witness6 (enc := enc) (C := Try.checked) false ⟨#[], #[.agg #[.int .i64 0, .int .i64 0, .int .i64 0, .bool false, .int .i64 0, .slice none 0 0, .slice none 0 0]], []⟩ 8 (by kernel_rfl) (by kernel_rfl) (by kernel_rfl) (by kernel_rfl))
    (by kernel_rfl) rfl (fun ds hd => by
      match ds, hd with
      | [_], _ => rfl) rfl Try.underlying4 (by kernel_rfl)
    (fun W args h => by
      rw [Try.params9] at h
      obtain ⟨v0, l0, e0, h0, r0⟩ := h
      have r0' : l0 = [] := r0
      obtain rfl : args = #[v0] := by
        apply Array.toList_inj.1
        rw [e0, r0']
      exact walk W v0 h0)

theorem over : Rows.frameChecksRow.holds Try.pinned (OpenSpec.ofChange Rows.frameChecksSpec) :=
  OpenClaim.holds_of_wide 9 Try.f9 rfl rfl rfl rfl rfl rfl rfl ⟨rfl, rfl, rfl, rfl, rfl⟩ rfl rfl rfl rfl rfl (by kernel_rfl) Try.func9 (by kernel_rfl)
    (of_decide_eq_true (by kernel_rfl)) (by unfold Func.isWrapper; first | (rw [if_pos (by decide +kernel)]; kernel_rfl) | (rw [if_neg (by decide +kernel)]; exact ⟨rfl, rfl⟩))
    (fun os started H enc _ => lifted os started H enc)

theorem proved : Rows.FrameChecksSaid := over
#print axioms proved

end Go.Proofs.Ytkineiemgjandaa.frameChecks
