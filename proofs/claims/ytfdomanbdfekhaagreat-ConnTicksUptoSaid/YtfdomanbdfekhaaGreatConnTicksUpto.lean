/-
  ConnTicks: conn.Tick answers what P18.9 says, within the bound of the second form.
-/
import Derived.Test.YtfdomanbdfekhaaGreatGA
import Derived.Test.YtfdomanbdfekhaaGreatTkD
import Derived.Test.YtfdomanbdfekhaaGreatCnS
import Derived.Test.YtfdomanbdfekhaaGreatCells
import Derived.Test.YtfdomanbdfekhaaGreatCellsU
set_option linter.unusedSimpArgs false
set_option linter.unusedVariables false
namespace Go.Proofs.YtfdomanbdfekhaaGreat.connTicksUpto
open Go.ChangeShapes Go.WideShapes Go.ChangeAt Go.RowKit
set_option maxRecDepth 100000
attribute [local irreducible] Run RunL QStep GStep Fn Less PL FnM

theorem nilWf : wfConn default := by
  unfold wfConn wfSpace wfPace wfFlow I64
  refine ⟨⟨by decide, by decide, (fun y hy => by cases hy), by decide, by decide, (fun y hy => by cases hy), by decide, (fun y hy => by cases hy)⟩, by decide, by decide, by decide, by decide, by decide, by decide, by decide, (fun y hy => by cases hy), by decide, (fun y hy => by cases hy), by decide, by decide, by decide⟩
theorem tickWf (c : DConn) (now : Int) (hu : U.wfConn c) : wfConn (tickR c now).1 := by
  have hw := U.wf_leConn c hu
  unfold tickR
  rcases cnFlt_cases c with ⟨h0, hok⟩ | ⟨h0, hok⟩
  · rw [if_pos h0]
    have hnum := hok.1.1.1.2
    unfold cnNum at hnum
    split
    · split
      · exact hw
      · split
        · have h := shut_wf (e := 16) hw (by unfold I64; omega)
          obtain ⟨w0, w1, w2, w3, w4, w5, w6, w7, w8, w9, w10, w11, w12, w13⟩ := h
          exact ⟨w0, w1, w2, w3, w4, w5, w6, w7, w8, by unfold cnQ; simp, (fun y hy => by cases hy), w11, w12, w13⟩
        · obtain ⟨v1, v2, v3⟩ := spOver_wf c.Space now 8 hw.1
          have hw2 : wfConn (cnSp c (spOver c.Space now 8).1) := ⟨v1, hw.2⟩
          obtain ⟨a1, a2, a3, a4⟩ := lostAll_wf (now := now) (spOver c.Space now 8).2.1 hw2 (fun y hy => hu.2.2.2.2.2.2.2.2.1 y hy) (by unfold cnSp; dsimp only; omega) (by unfold cnSp; dsimp only; omega) v3
          split
          · exact a1
          · exact shut_wf a1 (lostErr _ _)
    · exact nilWf
  · rw [if_neg (by omega)]
    exact nilWf
set_option maxHeartbeats 4000000 in
theorem law_fn (c : DConn) (now : Int) (hu : U.wfConn c) : Fn Tryz.prog 3 [.agg (encConn c), .lit (.int .i64 now)] (.lit (.bool true)) := by
  have h1 := connTick_fn c now hu
  have h2 := connTicked_fn c now hu
  have h3 := sameConn_refl _ (tickWf c now hu)
  clear hu
  generalize tickR c now = x at *
  obtain ⟨x, e⟩ := x
  unfold encCnE at h1 h2
  dsimp only at *
  refine fn_of_run (by kernel_rfl) Tryz.func3 rfl (by kernel_rfl) ?_
  (repeat' first | (refine s_call (h1) (h := ?_)) | (refine p_call (h1) (h := ?_)) | (refine s_call (h2) (h := ?_)) | (refine p_call (h2) (h := ?_)) | (refine s_call (h3) (h := ?_)) | (refine p_call (h3) (h := ?_)) | (refine go_ ?_; ((repeat' first | exact True.intro | refine Two.mk ?_ ?_); all_goals intros)) | fail "")
  all_goals first
    | exact ends_ (hr := rfl)
    | (exfalso; simp at *; done)
    | skip

theorem walk (W : World) (v0 : Value) (v1 : Value) (h0 : U.ArgIs Tryz.prog W 34 v0) (h1 : U.ArgIs Tryz.prog W 3 v1) :
    Calls Tryz.prog 3 #[v0, v1] W fun e W' => e = .returned (.bool true) ∧ Below W.heap.size W W' := by
  obtain ⟨c0, rfl, g0⟩ := h0.struct_ Tryz.underlying34
  obtain ⟨x0, r0, w0⟩ := U.rConn_of_cells _ g0
  obtain ⟨x1, rfl, w1⟩ := h1.int_ Tryz.underlying3
  replace w1 := i64_of_wf w1
  exact law_of_fn (law_fn x0 x1 w0) (.cons (argv_agg r0) (.cons (argv_lit rfl) (.nil)))

set_option maxRecDepth 100000 in
theorem lifted (os : Os) (started : os.Started) (H : Type) (enc : TypeId × Value → H) (F : Stop.Interp) :
    ReturnsInHanded {} Tryz.checked os 3 .any ((Rows.OpenSpec.upto Rows.connTicksSpec).pre6 enc Tryz.prog Tryz.f3 Rows.connTicksUptoRow.domain false) (((Rows.OpenSpec.upto Rows.connTicksSpec).at F).post enc Tryz.prog Tryz.f3 false true false false) :=
  U.law_lifted (C := Tryz.checked) (s := Rows.connTicksSpec) (by kernel_rfl) started (by kernel_rfl) Tryz.func3
    (OpenSpec.witness (enc := enc) (C := Tryz.checked) (s := Rows.OpenSpec.upto Rows.connTicksSpec) (k := Rows.uptoSmall) rfl false ⟨#[], #[.agg #[.bool false, .int .i64 0, .slice none 0 0, .int .i64 0, .slice none 0 0, .slice none 0 0, .int .i64 0, .int .i64 0, .int .i64 0, .int .i64 0, .int .i64 0, .int .i64 0, .int .i64 0, .int .i64 0, .int .i64 0, .int .i64 0, .int .i64 0, .slice none 0 0, .bool false, .slice none 0 0, .int .i64 0, .int .i64 0, .bool false, .int .i64 0], .int .i64 0], []⟩ 8 (by kernel_rfl) (by kernel_rfl) (by kernel_rfl)
      (x := ([.agg [.lit (.bool false), .agg [.lit (.int .i64 0), .nil, .lit (.int .i64 0), .nil, .nil], .agg [.lit (.int .i64 0), .lit (.int .i64 0), .lit (.int .i64 0), .lit (.int .i64 0)], .agg [.lit (.int .i64 0), .lit (.int .i64 0)], .agg [.lit (.int .i64 0), .lit (.int .i64 0)], .lit (.int .i64 0), .lit (.int .i64 0), .lit (.int .i64 0), .nil, .lit (.bool false), .nil, .lit (.int .i64 0), .lit (.int .i64 0), .lit (.bool false), .lit (.int .i64 0)], .lit (.int .i64 0)], [], [])) (by kernel_rfl) rfl (by kernel_rfl))
    (by kernel_rfl) rfl (fun ds hd => by
      match ds, hd with
      | [_, _], _ => rfl) rfl Tryz.underlying4 (by kernel_rfl)
    (fun W args h => by
      rw [Tryz.params3] at h
      obtain ⟨v0, l0, e0, h0, r0⟩ := h
      obtain ⟨v1, l1, e1, h1, r1⟩ := r0
      have r1' : l1 = [] := r1
      obtain rfl : args = #[v0, v1] := by
        apply Array.toList_inj.1
        rw [e0, e1, r1']
      exact walk W v0 v1 h0 h1)

set_option maxHeartbeats 16000000 in
theorem closed : joinedFacts Tryz.pinned.checked.prog 3 Tryz.f3 ((Rows.OpenSpec.upto Rows.connTicksSpec).bare) Rows.connTicksUptoRow = true := by
  unfold joinedFacts
  simp only [Bool.and_eq_true]
  repeat' apply And.intro
  all_goals decide +kernel

theorem over : Rows.connTicksUptoRow.holds Tryz.pinned (Rows.OpenSpec.upto Rows.connTicksSpec) :=
  OpenClaim.holds_of_cond 3 Tryz.f3 rfl rfl rfl rfl rfl rfl rfl ⟨rfl, rfl, rfl, rfl, rfl⟩ rfl rfl rfl rfl rfl (by kernel_rfl) Tryz.func3 closed
    (of_decide_eq_true (by kernel_rfl)) (by unfold Func.isWrapper; first | (rw [if_pos (by decide +kernel)]; kernel_rfl) | (rw [if_neg (by decide +kernel)]; exact ⟨rfl, rfl⟩))
    (fun os started H enc _ F => lifted os started H enc F)

theorem proved : Rows.ConnTicksUptoSaid := over
#print axioms proved

end Go.Proofs.YtfdomanbdfekhaaGreat.connTicksUpto
