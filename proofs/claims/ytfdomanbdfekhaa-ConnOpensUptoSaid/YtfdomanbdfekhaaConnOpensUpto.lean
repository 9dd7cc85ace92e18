/-
  ConnOpens: conn.Open answers what P18.4 says, within the bound of the second form.
-/
import Derived.Test.YtfdomanbdfekhaaGo
import Derived.Test.YtfdomanbdfekhaaCnP
import Derived.Test.YtfdomanbdfekhaaCnS
import Derived.Test.YtfdomanbdfekhaaCells
import Derived.Test.YtfdomanbdfekhaaCellsU
set_option linter.unusedSimpArgs false
set_option linter.unusedVariables false
namespace Go.Proofs.Ytfdomanbdfekhaa.connOpensUpto
open Go.ChangeShapes Go.WideShapes Go.ChangeAt Go.RowKit
set_option maxRecDepth 100000
attribute [local irreducible] Run RunL QStep GStep Fn Less PL FnM

theorem nilWf : wfConn default := by
  unfold wfConn wfSpace wfPace wfFlow I64
  refine ⟨⟨by decide, by decide, (fun y hy => by cases hy), by decide, by decide, (fun y hy => by cases hy), by decide, (fun y hy => by cases hy)⟩, by decide, by decide, by decide, by decide, by decide, by decide, by decide, (fun y hy => by cases hy), by decide, (fun y hy => by cases hy), by decide, by decide, by decide⟩
theorem openWf (c : DConn) (hw : wfConn c) : wfConn (cnOpenR c).1 := by
  unfold cnOpenR
  rcases cnFlt_cases c with ⟨h0, hok⟩ | ⟨h0, hok⟩
  · rw [if_pos h0]
    obtain ⟨r1, r2, r3, r4⟩ := cn_room hok
    split
    · exact nilWf
    · split
      · exact nilWf
      · split
        · exact nilWf
        · obtain ⟨w0, w1, w2, w3, w4, w5, w6, w7, w8, w9, w10, w11, w12, w13⟩ := hw
          refine ⟨w0, w1, w2, w3, w4, w5, ⟨by dsimp only [cnOpened]; omega, by dsimp only [cnOpened]; omega⟩, by (show (c.Lanes ++ [lnNew c.Opened]).length * 192 ≤ _; rw [List.length_append]; simp only [List.length_cons, List.length_nil]; omega), fun y hy => ?_, w9, w10, w11, w12, w13⟩
          rcases List.mem_append.1 hy with hy | hy
          · exact w8 y hy
          · rw [List.mem_singleton] at hy
            subst hy
            unfold lnNew wfLane wfGather wfSender I64
            exact ⟨⟨by dsimp only; omega, by dsimp only; omega⟩, ⟨(by first | decide | (simp; done) | (dsimp only; omega)), (by first | decide | (simp; done) | (dsimp only; omega)), (fun y hy => by cases hy), (by first | decide | (simp; done) | (dsimp only; omega)), (by first | decide | (simp; done) | (dsimp only; omega))⟩, (by first | decide | (simp; done) | (dsimp only; omega)), (by first | decide | (simp; done) | (dsimp only; omega)), (by first | decide | (simp; done) | (dsimp only; omega)), (by first | decide | (simp; done) | (dsimp only; omega)), (by first | decide | (simp; done) | (dsimp only; omega)), (fun y hy => by cases hy), (by first | decide | (simp; done) | (dsimp only; omega)), (fun y hy => by cases hy)⟩
  · rw [if_neg (by omega)]
    exact nilWf
set_option maxHeartbeats 4000000 in
theorem law_fn (c : DConn) (hu : U.wfConn c) : Fn Try.prog 6 [.agg (encConn c)] (.lit (.bool true)) := by
  have hw := U.wf_leConn c hu
  have h1 := connOpen_fn c hw
  have h2 := connOpened_fn c hu
  have h3 := sameConn_refl _ (openWf c hw)
  clear hu hw
  generalize cnOpenR c = x at *
  obtain ⟨x, i, e⟩ := x
  unfold encCnIE at h1 h2
  dsimp only at *
  refine fn_of_run (by kernel_rfl) Try.func6 rfl (by kernel_rfl) ?_
  (repeat' first | (refine s_call (h1) (h := ?_)) | (refine p_call (h1) (h := ?_)) | (refine s_call (h2) (h := ?_)) | (refine p_call (h2) (h := ?_)) | (refine s_call (h3) (h := ?_)) | (refine p_call (h3) (h := ?_)) | (refine go_ ?_; ((repeat' first | exact True.intro | refine Two.mk ?_ ?_); all_goals intros)) | fail "")
  all_goals first
    | exact ends_ (hr := rfl)
    | (exfalso; simp at *; done)
    | skip

theorem walk (W : World) (v0 : Value) (h0 : U.ArgIs Try.prog W 59 v0) :
    Calls Try.prog 6 #[v0] W fun e W' => e = .returned (.bool true) ∧ Below W.heap.size W W' := by
  obtain ⟨c0, rfl, g0⟩ := h0.struct_ Try.underlying59
  obtain ⟨x0, r0, w0⟩ := U.rConn_of_cells _ g0
  exact law_of_fn (law_fn x0 w0) (.cons (argv_agg r0) (.nil))

set_option maxRecDepth 100000 in
theorem lifted (os : Os) (started : os.Started) (H : Type) (enc : TypeId × Value → H) (F : Stop.Interp) :
    ReturnsInHanded {} Try.checked os 6 .any ((Rows.OpenSpec.upto Rows.connOpensSpec).pre6 enc Try.prog Try.f6 Rows.connOpensUptoRow.domain false) (((Rows.OpenSpec.upto Rows.connOpensSpec).at F).post enc Try.prog Try.f6 false true false false) :=
  U.law_lifted (C := Try.checked) (s := Rows.connOpensSpec) (by kernel_rfl) started (by kernel_rfl) Try.func6
    (OpenSpec.witness (enc := enc) (C := Try.checked) (s := Rows.OpenSpec.upto Rows.connOpensSpec) (k := Rows.uptoSmall) rfl false ⟨#[], #[.agg #[.bool false, .int .i64 0, .slice none 0 0, .int .i64 0, .slice none 0 0, .slice none 0 0, .int .i64 0, .int .i64 0, .int .i64 0, .int .i64 0, .int .i64 0, .int .i64 0, .int .i64 0, .int .i64 0, .int .i64 0, .int .i64 0, .int .i64 0, .slice none 0 0, .bool false, .slice none 0 0, .int .i64 0, .int .i64 0, .bool false, .int .i64 0]], []⟩ 8 (by kernel_rfl) (by kernel_rfl) (by kernel_rfl)
      (x := ([.agg [.lit (.bool false), .agg [.lit (.int .i64 0), .nil, .lit (.int .i64 0), .nil, .nil], .agg [.lit (.int .i64 0), .lit (.int .i64 0), .lit (.int .i64 0), .lit (.int .i64 0)], .agg [.lit (.int .i64 0), .lit (.int .i64 0)], .agg [.lit (.int .i64 0), .lit (.int .i64 0)], .lit (.int .i64 0), .lit (.int .i64 0), .lit (.int .i64 0), .nil, .lit (.bool false), .nil, .lit (.int .i64 0), .lit (.int .i64 0), .lit (.bool false), .lit (.int .i64 0)]], [], [])) (by kernel_rfl) rfl (by kernel_rfl))
    (by kernel_rfl) rfl (fun ds hd => by
      match ds, hd with
      | [_], _ => rfl) rfl Try.underlying4 (by kernel_rfl)
    (fun W args h => by
      rw [Try.params6] at h
      obtain ⟨v0, l0, e0, h0, r0⟩ := h
      have r0' : l0 = [] := r0
      obtain rfl : args = #[v0] := by
        apply Array.toList_inj.1
        rw [e0, r0']
      exact walk W v0 h0)

set_option maxHeartbeats 16000000 in
theorem closed : joinedFacts Try.pinned.checked.prog 6 Try.f6 ((Rows.OpenSpec.upto Rows.connOpensSpec).bare) Rows.connOpensUptoRow = true := by
  unfold joinedFacts
  simp only [Bool.and_eq_true]
  repeat' apply And.intro
  all_goals decide +kernel

theorem over : Rows.connOpensUptoRow.holds Try.pinned (Rows.OpenSpec.upto Rows.connOpensSpec) :=
  OpenClaim.holds_of_cond 6 Try.f6 rfl rfl rfl rfl rfl rfl rfl ⟨rfl, rfl, rfl, rfl, rfl⟩ rfl rfl rfl rfl rfl (by kernel_rfl) Try.func6 closed
    (of_decide_eq_true (by kernel_rfl)) (by unfold Func.isWrapper; first | (rw [if_pos (by decide +kernel)]; kernel_rfl) | (rw [if_neg (by decide +kernel)]; exact ⟨rfl, rfl⟩))
    (fun os started H enc _ F => lifted os started H enc F)

theorem proved : Rows.ConnOpensUptoSaid := over
#print axioms proved

end Go.Proofs.Ytfdomanbdfekhaa.connOpensUpto
