/-
  GateChecks: gate.Check and gate.Begin answer what P19.4 and P19.5 say, within the bound of the second form.
-/
import Derived.Test.YtfdomanbdfekhaaGo
import Derived.Test.YtfdomanbdfekhaaGtC
import Derived.Test.YtfdomanbdfekhaaGtS
import Derived.Test.YtfdomanbdfekhaaCells
import Derived.Test.YtfdomanbdfekhaaCellsU
set_option linter.unusedSimpArgs false
set_option linter.unusedVariables false
namespace Go.Proofs.Ytfdomanbdfekhaa.gateChecksUpto
open Go.ChangeShapes Go.WideShapes Go.ChangeAt Go.RowKit
set_option maxRecDepth 100000
attribute [local irreducible] Run RunL QStep GStep Fn Less PL FnM

set_option maxHeartbeats 4000000 in
theorem law_fn (g : DGate) (s : Int) (r : Bool) (hu : U.wfGate g) : Fn Try.prog 5 [.agg (encGate g), .lit (.int .u64 s), .lit (.bool r)] (.lit (.bool true)) := by
  have hw := U.wf_leGate g hu
  have h1 := gateCheck_fn g hw
  have h2 := gateBegin_fn s r
  have h3 := gateFault_fn g hu
  have h4 := sameBeg_fn s r
  clear hu hw
  generalize gtFlt g = f at *
  refine fn_of_run (by kernel_rfl) Try.func5 rfl (by kernel_rfl) ?_
  (repeat' first | (refine s_call (h1) (h := ?_)) | (refine p_call (h1) (h := ?_)) | (refine s_call (h2) (h := ?_)) | (refine p_call (h2) (h := ?_)) | (refine s_call (h3) (h := ?_)) | (refine p_call (h3) (h := ?_)) | (refine s_call (h4) (h := ?_)) | (refine p_call (h4) (h := ?_)) | (refine go_ ?_; ((repeat' first | exact True.intro | refine Two.mk ?_ ?_); all_goals intros)) | fail "")
  all_goals first
    | exact ends_ (hr := rfl)
    | (exfalso; simp at *; done)
    | skip

theorem walk (W : World) (v0 : Value) (v1 : Value) (v2 : Value) (h0 : U.ArgIs Try.prog W 42 v0) (h1 : U.ArgIs Try.prog W 36 v1) (h2 : U.ArgIs Try.prog W 4 v2) :
    Calls Try.prog 5 #[v0, v1, v2] W fun e W' => e = .returned (.bool true) ∧ Below W.heap.size W W' := by
  obtain ⟨c0, rfl, g0⟩ := h0.struct_ Try.underlying42
  obtain ⟨x0, r0, w0⟩ := U.rGate_of_cells _ g0
  obtain ⟨x1, rfl, w1⟩ := h1.int_ Try.underlying36
  replace w1 := u64_of_wf w1
  obtain ⟨x2, rfl⟩ := h2.bool_ Try.underlying4
  exact law_of_fn (law_fn x0 x1 x2 w0) (.cons (argv_agg r0) (.cons (argv_lit rfl) (.cons (argv_lit rfl) (.nil))))

set_option maxRecDepth 100000 in
theorem lifted (os : Os) (started : os.Started) (H : Type) (enc : TypeId × Value → H) (F : Stop.Interp) :
    ReturnsInHanded {} Try.checked os 5 .any ((Rows.OpenSpec.upto Rows.gateChecksSpec).pre6 enc Try.prog Try.f5 Rows.gateChecksUptoRow.domain false) (((Rows.OpenSpec.upto Rows.gateChecksSpec).at F).post enc Try.prog Try.f5 false true false false) :=
  U.law_lifted (C := Try.checked) (s := Rows.gateChecksSpec) (by kernel_rfl) started (by kernel_rfl) Try.func5
    (OpenSpec.witness (enc := enc) (C := Try.checked) (s := Rows.OpenSpec.upto Rows.gateChecksSpec) (k := Rows.uptoSmall) rfl false ⟨#[], #[.agg #[.int .u64 0, .int .i64 0, .int .i64 0, .slice none 0 0, .bool false, .int .i64 0, .int .i64 0, .bool false, .int .i64 0, .int .i64 0, .bool false, .int .i64 0, .int .i64 0, .bool false, .int .i64 0, .int .i64 0, .bool false, .int .i64 0], .int .u64 0, .bool false], []⟩ 8 (by kernel_rfl) (by kernel_rfl) (by kernel_rfl)
      (x := ([.agg [.lit (.int .u64 0), .lit (.int .i64 0), .lit (.int .i64 0), .nil, .agg [.agg [.lit (.bool false), .lit (.int .i64 0), .lit (.int .i64 0)], .agg [.lit (.bool false), .lit (.int .i64 0), .lit (.int .i64 0)], .agg [.lit (.bool false), .lit (.int .i64 0), .lit (.int .i64 0)], .agg [.lit (.bool false), .lit (.int .i64 0), .lit (.int .i64 0)]], .lit (.bool false), .lit (.int .i64 0)], .lit (.int .u64 0), .lit (.bool false)], [], [])) (by kernel_rfl) rfl (by kernel_rfl))
    (by kernel_rfl) rfl (fun ds hd => by
      match ds, hd with
      | [_, _, _], _ => rfl) rfl Try.underlying4 (by kernel_rfl)
    (fun W args h => by
      rw [Try.params5] at h
      obtain ⟨v0, l0, e0, h0, r0⟩ := h
      obtain ⟨v1, l1, e1, h1, r1⟩ := r0
      obtain ⟨v2, l2, e2, h2, r2⟩ := r1
      have r2' : l2 = [] := r2
      obtain rfl : args = #[v0, v1, v2] := by
        apply Array.toList_inj.1
        rw [e0, e1, e2, r2']
      exact walk W v0 v1 v2 h0 h1 h2)

set_option maxHeartbeats 16000000 in
theorem closed : joinedFacts Try.pinned.checked.prog 5 Try.f5 ((Rows.OpenSpec.upto Rows.gateChecksSpec).bare) Rows.gateChecksUptoRow = true := by
  unfold joinedFacts
  simp only [Bool.and_eq_true]
  repeat' apply And.intro
  all_goals decide +kernel

theorem over : Rows.gateChecksUptoRow.holds Try.pinned (Rows.OpenSpec.upto Rows.gateChecksSpec) :=
  OpenClaim.holds_of_cond 5 Try.f5 rfl rfl rfl rfl rfl rfl rfl ⟨rfl, rfl, rfl, rfl, rfl⟩ rfl rfl rfl rfl rfl (by kernel_rfl) Try.func5 closed
    (of_decide_eq_true (by kernel_rfl)) (by unfold Func.isWrapper; first | (rw [if_pos (by decide +kernel)]; kernel_rfl) | (rw [if_neg (by decide +kernel)]; exact ⟨rfl, rfl⟩))
    (fun os started H enc _ F => lifted os started H enc F)

theorem proved : Rows.GateChecksUptoSaid := over
#print axioms proved

end Go.Proofs.Ytfdomanbdfekhaa.gateChecksUpto
