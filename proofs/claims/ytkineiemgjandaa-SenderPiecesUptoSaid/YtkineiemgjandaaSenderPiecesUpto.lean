/-
  SenderPieces: sender.Piece answers what P10.4 says, within the bound of the second form.
-/
import Derived.Test.YtkineiemgjandaaSndT
import Derived.Test.YtkineiemgjandaaCells
import Derived.Test.YtkineiemgjandaaCellsU
set_option linter.unusedSimpArgs false
set_option linter.unusedVariables false
namespace Go.Proofs.Ytkineiemgjandaa.senderPiecesUpto
open Go.ChangeShapes Go.WideShapes Go.ChangeAt Go.RowKit
set_option maxRecDepth 100000
attribute [local irreducible] Run RunL QStep GStep Fn Less PL

theorem walk (W : World) (v0 : Value) (v1 : Value) (v2 : Value) (h0 : U.ArgIs Try.prog W 38 v0) (h1 : U.ArgIs Try.prog W 3 v1) (h2 : U.ArgIs Try.prog W 3 v2) :
    Calls Try.prog 8 #[v0, v1, v2] W fun e W' => e = .returned (.bool true) ∧ Below W.heap.size W W' := by
  obtain ⟨c0, rfl, g0⟩ := h0.struct_ Try.underlying38
  obtain ⟨x0, r0, w0⟩ := U.rSender_of_cells _ g0
  obtain ⟨x1, rfl, w1⟩ := h1.int_ Try.underlying3
  replace w1 := i64_of_wf w1
  obtain ⟨x2, rfl, w2⟩ := h2.int_ Try.underlying3
  replace w2 := i64_of_wf w2
  exact law_of_fn (senderPieces_law x0 x1 x2 w0 w1 w2) (.cons (argv_agg r0) (.cons (argv_lit rfl) (.cons (argv_lit rfl) (.nil))))

set_option maxRecDepth 100000 in
theorem lifted (os : Os) (started : os.Started) (H : Type) (enc : TypeId × Value → H) (F : Stop.Interp) :
    ReturnsInHanded {} Try.checked os 8 .any ((Rows.OpenSpec.upto Rows.senderPiecesSpec).pre6 enc Try.prog Try.f8 Rows.senderPiecesUptoRow.domain false) (((Rows.OpenSpec.upto Rows.senderPiecesSpec).at F).post enc Try.prog Try.f8 false true false false) :=
  U.law_lifted (C := Try.checked) (s := Rows.senderPiecesSpec) (by kernel_rfl) started (by kernel_rfl) Try.func8
    (OpenSpec.witness (enc := enc) (C := Try.checked) (s := Rows.OpenSpec.upto Rows.senderPiecesSpec) (k := Rows.uptoSmall) rfl false ⟨#[], #[.agg #[.slice none 0 0, .bool false, .int .i64 0, .int .i64 0, .slice none 0 0, .slice none 0 0, .bool false, .bool false], .int .i64 0, .int .i64 0], []⟩ 8 (by kernel_rfl) (by kernel_rfl) (by kernel_rfl)
      (x := ([.agg [.nil, .lit (.bool false), .lit (.int .i64 0), .lit (.int .i64 0), .nil, .nil, .lit (.bool false), .lit (.bool false)], .lit (.int .i64 0), .lit (.int .i64 0)], [], [])) (by kernel_rfl) rfl (by kernel_rfl))
    (by kernel_rfl) rfl (fun ds hd => by
      match ds, hd with
      | [_, _, _], _ => rfl) rfl Try.underlying4 (by kernel_rfl) (by kernel_rfl)
    (fun W args h => by
      rw [Try.params8] at h
      obtain ⟨v0, l0, e0, h0, r0⟩ := h
      obtain ⟨v1, l1, e1, h1, r1⟩ := r0
      obtain ⟨v2, l2, e2, h2, r2⟩ := r1
      have r2' : l2 = [] := r2
      obtain rfl : args = #[v0, v1, v2] := by
        apply Array.toList_inj.1
        rw [e0, e1, e2, r2']
      exact walk W v0 v1 v2 h0 h1 h2)

theorem over : Rows.senderPiecesUptoRow.holds Try.pinned (Rows.OpenSpec.upto Rows.senderPiecesSpec) :=
  OpenClaim.holds_of_cond 8 Try.f8 rfl rfl rfl rfl rfl rfl rfl ⟨rfl, rfl, rfl, rfl, rfl⟩ rfl rfl rfl rfl rfl (by kernel_rfl) Try.func8 (by kernel_rfl)
    (of_decide_eq_true (by kernel_rfl)) (by unfold Func.isWrapper; first | (rw [if_pos (by decide +kernel)]; kernel_rfl) | (rw [if_neg (by decide +kernel)]; exact ⟨rfl, rfl⟩))
    (fun os started H enc _ F => lifted os started H enc F)

theorem proved : Rows.SenderPiecesUptoSaid := over
#print axioms proved

end Go.Proofs.Ytkineiemgjandaa.senderPiecesUpto
