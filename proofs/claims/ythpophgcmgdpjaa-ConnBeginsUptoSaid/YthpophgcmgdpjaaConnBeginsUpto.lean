/-
  ConnBegins: conn.Check and conn.Begin answer what P18.1 to P18.3 says, within the bound of the second form.
-/
import Derived.Test.YthpophgcmgdpjaaGo
import Derived.Test.YthpophgcmgdpjaaCnF
import Derived.Test.YthpophgcmgdpjaaCnFr
import Derived.Test.YthpophgcmgdpjaaCnB
import Derived.Test.YthpophgcmgdpjaaCnS
import Derived.Test.YthpophgcmgdpjaaCells
import Derived.Test.YthpophgcmgdpjaaCellsU
set_option linter.unusedSimpArgs false
set_option linter.unusedVariables false
namespace Go.Proofs.Ythpophgcmgdpjaa.connBeginsUpto
open Go.ChangeShapes Go.WideShapes Go.ChangeAt Go.RowKit
set_option maxRecDepth 100000
attribute [local irreducible] Run RunL QStep GStep Fn Less PL FnM

theorem begWf (cl : Bool) (now : Int) : wfConn (cnBegR cl now).1 := by
  unfold cnBegR
  by_cases h : 0 ≤ now ∧ now ≤ 1099511627776
  · rw [if_pos h]
    unfold wfConn wfSpace wfPace wfFlow I64
    dsimp only
    refine ⟨⟨by omega, by simp, (fun y hy => by cases hy), by omega, by simp, (fun y hy => by cases hy), by simp, (fun y hy => by cases hy)⟩, by omega, by omega, by omega, by (split <;> omega), by (split <;> omega), by omega, by simp, (fun y hy => by cases hy), by simp, (fun y hy => by cases hy), by omega, by omega, by omega⟩
  · rw [if_neg h]
    unfold wfConn wfSpace wfPace wfFlow I64
    refine ⟨⟨by decide, by decide, (fun y hy => by cases hy), by decide, by decide, (fun y hy => by cases hy), by decide, (fun y hy => by cases hy)⟩, by decide, by decide, by decide, by decide, by decide, by decide, by decide, (fun y hy => by cases hy), by decide, (fun y hy => by cases hy), by decide, by decide, by decide⟩
set_option maxHeartbeats 4000000 in
theorem law_fn (cl : Bool) (now : Int) (c : DConn) (hu : U.wfConn c) : Fn Try.prog 12 [.lit (.bool cl), .lit (.int .i64 now), .agg (encConn c)] (.lit (.bool true)) := by
  have hw := U.wf_leConn c hu
  have h1 := connCheck_fn c hw
  have h2 := connBegin_fn cl now
  have h3 := connFault_fn c hu
  have h4 := connBegun_fn cl now
  have h5 := sameConn_refl _ (begWf cl now)
  have h6 : Fn Try.prog 54 [.agg (encConn c)] (.agg (encConn c)) := fn_of_fnm (fnm_ren (cfresh_fnm c hw) [] rfl rfl trivial)
  have h7 := sameConn_refl c hw
  clear hu hw
  generalize cnFlt c = f at *
  generalize cnBegR cl now = x at *
  obtain ⟨x, e⟩ := x
  unfold encCnE at h2 h4
  dsimp only at *
  refine fn_of_run (by kernel_rfl) Try.func12 rfl (by kernel_rfl) ?_
  (repeat' first | (refine s_call (h1) (h := ?_)) | (refine p_call (h1) (h := ?_)) | (refine s_call (h2) (h := ?_)) | (refine p_call (h2) (h := ?_)) | (refine s_call (h3) (h := ?_)) | (refine p_call (h3) (h := ?_)) | (refine s_call (h4) (h := ?_)) | (refine p_call (h4) (h := ?_)) | (refine s_call (h5) (h := ?_)) | (refine p_call (h5) (h := ?_)) | (refine s_call (h6) (h := ?_)) | (refine p_call (h6) (h := ?_)) | (refine s_call (h7) (h := ?_)) | (refine p_call (h7) (h := ?_)) | (refine go_ ?_; ((repeat' first | exact True.intro | refine Two.mk ?_ ?_); all_goals intros)) | fail "")
  all_goals first
    | exact ends_ (hr := rfl)
    | (exfalso; simp at *; done)
    | skip

theorem walk (W : World) (v0 : Value) (v1 : Value) (v2 : Value) (h0 : U.ArgIs Try.prog W 4 v0) (h1 : U.ArgIs Try.prog W 3 v1) (h2 : U.ArgIs Try.prog W 95 v2) :
    Calls Try.prog 12 #[v0, v1, v2] W fun e W' => e = .returned (.bool true) ∧ Below W.heap.size W W' := by
  obtain ⟨x0, rfl⟩ := h0.bool_ Try.underlying4
  obtain ⟨x1, rfl, w1⟩ := h1.int_ Try.underlying3
  replace w1 := i64_of_wf w1
  obtain ⟨c2, rfl, g2⟩ := h2.struct_ Try.underlying95
  obtain ⟨x2, r2, w2⟩ := U.rConn_of_cells _ g2
  exact law_of_fn (law_fn x0 x1 x2 w2) (.cons (argv_lit rfl) (.cons (argv_lit rfl) (.cons (argv_agg r2) (.nil))))

set_option maxRecDepth 100000 in
theorem lifted (os : Os) (started : os.Started) (H : Type) (enc : TypeId × Value → H) (F : Stop.Interp) :
    ReturnsInHanded {} Try.checked os 12 .any ((Rows.OpenSpec.upto Rows.connBeginsSpec).pre6 enc Try.prog Try.f12 Rows.connBeginsUptoRow.domain false) (((Rows.OpenSpec.upto Rows.connBeginsSpec).at F).post enc Try.prog Try.f12 false true false false) :=
  U.law_lifted (C := Try.checked) (s := Rows.connBeginsSpec) (by kernel_rfl) started (by kernel_rfl) Try.func12
    (OpenSpec.witness (enc := enc) (C := Try.checked) (s := Rows.OpenSpec.upto Rows.connBeginsSpec) (k := Rows.uptoSmall) rfl false ⟨#[], #[.bool false, .int .i64 0, .agg #[.bool false, .int .i64 0, .slice none 0 0, .int .i64 0, .slice none 0 0, .slice none 0 0, .int .i64 0, .int .i64 0, .int .i64 0, .int .i64 0, .int .i64 0, .int .i64 0, .int .i64 0, .int .i64 0, .int .i64 0, .int .i64 0, .int .i64 0, .slice none 0 0, .bool false, .slice none 0 0, .int .i64 0, .int .i64 0, .bool false, .int .i64 0]], []⟩ 8 (by kernel_rfl) (by kernel_rfl) (by kernel_rfl)
      (x := ([.lit (.bool false), .lit (.int .i64 0), .agg [.lit (.bool false), .agg [.lit (.int .i64 0), .nil, .lit (.int .i64 0), .nil, .nil], .agg [.lit (.int .i64 0), .lit (.int .i64 0), .lit (.int .i64 0), .lit (.int .i64 0)], .agg [.lit (.int .i64 0), .lit (.int .i64 0)], .agg [.lit (.int .i64 0), .lit (.int .i64 0)], .lit (.int .i64 0), .lit (.int .i64 0), .lit (.int .i64 0), .nil, .lit (.bool false), .nil, .lit (.int .i64 0), .lit (.int .i64 0), .lit (.bool false), .lit (.int .i64 0)]], [], [])) (by kernel_rfl) rfl (by kernel_rfl))
    (by kernel_rfl) rfl (fun ds hd => by
      match ds, hd with
      | [_, _, _], _ => rfl) rfl Try.underlying4 (by kernel_rfl)
    (fun W args h => by
      rw [Try.params12] at h
      obtain ⟨v0, l0, e0, h0, r0⟩ := h
      obtain ⟨v1, l1, e1, h1, r1⟩ := r0
      obtain ⟨v2, l2, e2, h2, r2⟩ := r1
      have r2' : l2 = [] := r2
      obtain rfl : args = #[v0, v1, v2] := by
        apply Array.toList_inj.1
        rw [e0, e1, e2, r2']
      exact walk W v0 v1 v2 h0 h1 h2)

set_option maxHeartbeats 16000000 in
theorem closed : joinedFacts Try.pinned.checked.prog 12 Try.f12 ((Rows.OpenSpec.upto Rows.connBeginsSpec).bare) Rows.connBeginsUptoRow = true := by
  unfold joinedFacts
  simp only [Bool.and_eq_true]
  repeat' apply And.intro
  all_goals decide +kernel

theorem over : Rows.connBeginsUptoRow.holds Try.pinned (Rows.OpenSpec.upto Rows.connBeginsSpec) :=
  OpenClaim.holds_of_cond 12 Try.f12 rfl rfl rfl rfl rfl rfl rfl ⟨rfl, rfl, rfl, rfl, rfl⟩ rfl rfl rfl rfl rfl (by kernel_rfl) Try.func12 closed
    (of_decide_eq_true (by kernel_rfl)) (by unfold Func.isWrapper; first | (rw [if_pos (by decide +kernel)]; kernel_rfl) | (rw [if_neg (by decide +kernel)]; exact ⟨rfl, rfl⟩))
    (fun os started H enc _ F => lifted os started H enc F)

theorem proved : Rows.ConnBeginsUptoSaid := over
#print axioms proved

end Go.Proofs.Ythpophgcmgdpjaa.connBeginsUpto
