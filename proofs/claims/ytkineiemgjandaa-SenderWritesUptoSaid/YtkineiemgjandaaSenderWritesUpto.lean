/-
  SenderWrites: sender.Write and sender.Grant answer what P10.2 and P10.3 say, within the bound of the second form.
-/
import Derived.Test.YtkineiemgjandaaSndS
import Derived.Test.YtkineiemgjandaaCells
import Derived.Test.YtkineiemgjandaaCellsU
set_option linter.unusedSimpArgs false
set_option linter.unusedVariables false
namespace Go.Proofs.Ytkineiemgjandaa.senderWritesUpto
open Go.ChangeShapes Go.WideShapes Go.ChangeAt Go.RowKit
set_option maxRecDepth 100000
attribute [local irreducible] Run RunL QStep GStep Fn Less PL

theorem walk (W : World) (v0 : Value) (v1 : Value) (v2 : Value) (v3 : Value) (h0 : U.ArgIs Try.prog W 38 v0) (h1 : U.ArgIs Try.prog W 22 v1) (h2 : U.ArgIs Try.prog W 4 v2) (h3 : U.ArgIs Try.prog W 3 v3) :
    Calls Try.prog 7 #[v0, v1, v2, v3] W fun e W' => e = .returned (.bool true) ∧ Below W.heap.size W W' := by
  obtain ⟨c0, rfl, g0⟩ := h0.struct_ Try.underlying38
  obtain ⟨x0, r0, w0⟩ := U.rSender_of_cells _ g0
  obtain ⟨a1, n1, b1, rfl, g1⟩ := h1.slice_ Try.underlying22
  obtain ⟨x1, r1, w1, u1⟩ := U.rd_of_slice (enc := encB) (wf := fun _ => True) (size := 1) (bytes := 1) Try.underlying22 (by kernel_rfl) (by kernel_rfl) (by decide) (fun es h => U.rdB_of_cells Try.underlying5 es h) g1
  obtain ⟨x2, rfl⟩ := h2.bool_ Try.underlying4
  obtain ⟨x3, rfl, w3⟩ := h3.int_ Try.underlying3
  replace w3 := i64_of_wf w3
  exact law_of_fn (senderWrites_law x0 x1 x2 x3 w0 (by omega) w3) (.cons (argv_agg r0) (.cons (argv_ro r1) (.cons (argv_lit rfl) (.cons (argv_lit rfl) (.nil)))))

set_option maxRecDepth 100000 in
theorem lifted (os : Os) (started : os.Started) (H : Type) (enc : TypeId × Value → H) (F : Stop.Interp) :
    ReturnsInHanded {} Try.checked os 7 .any ((Rows.OpenSpec.upto Rows.senderWritesSpec).pre6 enc Try.prog Try.f7 Rows.senderWritesUptoRow.domain false) (((Rows.OpenSpec.upto Rows.senderWritesSpec).at F).post enc Try.prog Try.f7 false true false false) :=
  U.law_lifted (C := Try.checked) (s := Rows.senderWritesSpec) (by kernel_rfl) started (by kernel_rfl) Try.func7
    (OpenSpec.witness (enc := enc) (C := Try.checked) (s := Rows.OpenSpec.upto Rows.senderWritesSpec) (k := Rows.uptoSmall) rfl false ⟨#[], #[.agg #[.slice none 0 0, .bool false, .int .i64 0, .int .i64 0, .slice none 0 0, .slice none 0 0, .bool false, .bool false], .slice none 0 0, .bool false, .int .i64 0], []⟩ 8 (by kernel_rfl) (by kernel_rfl) (by kernel_rfl)
      (x := ([.agg [.nil, .lit (.bool false), .lit (.int .i64 0), .lit (.int .i64 0), .nil, .nil, .lit (.bool false), .lit (.bool false)], .nil, .lit (.bool false), .lit (.int .i64 0)], [], [])) (by kernel_rfl) rfl (by kernel_rfl))
    (by kernel_rfl) rfl (fun ds hd => by
      match ds, hd with
      | [_, _, _, _], _ => rfl) rfl Try.underlying4 (by kernel_rfl) (by kernel_rfl)
    (fun W args h => by
      rw [Try.params7] at h
      obtain ⟨v0, l0, e0, h0, r0⟩ := h
      obtain ⟨v1, l1, e1, h1, r1⟩ := r0
      obtain ⟨v2, l2, e2, h2, r2⟩ := r1
      obtain ⟨v3, l3, e3, h3, r3⟩ := r2
      have r3' : l3 = [] := r3
      obtain rfl : args = #[v0, v1, v2, v3] := by
        apply Array.toList_inj.1
        rw [e0, e1, e2, e3, r3']
      exact walk W v0 v1 v2 v3 h0 h1 h2 h3)

theorem over : Rows.senderWritesUptoRow.holds Try.pinned (Rows.OpenSpec.upto Rows.senderWritesSpec) :=
  OpenClaim.holds_of_cond 7 Try.f7 rfl rfl rfl rfl rfl rfl rfl ⟨rfl, rfl, rfl, rfl, rfl⟩ rfl rfl rfl rfl rfl (by kernel_rfl) Try.func7 (by kernel_rfl)
    (of_decide_eq_true (by kernel_rfl)) (by unfold Func.isWrapper; first | (rw [if_pos (by decide +kernel)]; kernel_rfl) | (rw [if_neg (by decide +kernel)]; exact ⟨rfl, rfl⟩))
    (fun os started H enc _ F => lifted os started H enc F)

theorem proved : Rows.SenderWritesUptoSaid := over
#print axioms proved

end Go.Proofs.Ytkineiemgjandaa.senderWritesUpto
