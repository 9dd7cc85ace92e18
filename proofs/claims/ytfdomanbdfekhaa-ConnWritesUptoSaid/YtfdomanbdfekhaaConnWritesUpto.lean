/-
  ConnWrites: conn.Write answers what P18.5 says, within the bound of the second form.
-/
import Derived.Test.YtfdomanbdfekhaaGo
import Derived.Test.YtfdomanbdfekhaaCnX
import Derived.Test.YtfdomanbdfekhaaCnS
import Derived.Test.YtfdomanbdfekhaaCells
import Derived.Test.YtfdomanbdfekhaaCellsU
set_option linter.unusedSimpArgs false
set_option linter.unusedVariables false
namespace Go.Proofs.Ytfdomanbdfekhaa.connWritesUpto
open Go.ChangeShapes Go.WideShapes Go.ChangeAt Go.RowKit
set_option maxRecDepth 100000
attribute [local irreducible] Run RunL QStep GStep Fn Less PL FnM

theorem nilWf : wfConn default := by
  unfold wfConn wfSpace wfPace wfFlow I64
  refine ⟨⟨by decide, by decide, (fun y hy => by cases hy), by decide, by decide, (fun y hy => by cases hy), by decide, (fun y hy => by cases hy)⟩, by decide, by decide, by decide, by decide, by decide, by decide, by decide, (fun y hy => by cases hy), by decide, (fun y hy => by cases hy), by decide, by decide, by decide⟩
theorem sndZ_wf : wfSender sndZ := by
  unfold sndZ wfSender I64
  exact ⟨by decide, by decide, by decide, by decide, (fun y hy => by cases hy), by decide, (fun y hy => by cases hy)⟩
theorem wrWf (s : DSender) (b : List UInt8) (fin : Bool) (hw : wfSender s) : wfSender (wrR s b fin).1 := by
  unfold wrR
  split
  · exact sndZ_wf
  · split
    · exact sndZ_wf
    · split
      · exact sndZ_wf
      · obtain ⟨w1, w2, w3, w4, w5, w6, w7⟩ := hw
        exact ⟨by dsimp only; rw [List.length_append]; omega, w2, w3, w4, w5, w6, w7⟩
theorem writeWf (c : DConn) (id : Int) (b : List UInt8) (fin : Bool) (hw : wfConn c) : wfConn (cnWriteR c id b fin).1 := by
  unfold cnWriteR
  split
  · split
    · exact nilWf
    · split
      · rename_i hx
        split
        · obtain ⟨w0, w1, w2, w3, w4, w5, w6, w7, w8, w9, w10, w11, w12, w13⟩ := hw
          have hl := w8 _ (getD_mem hx)
          refine ⟨w0, w1, w2, w3, w4, w5, w6, by (unfold cnSet; dsimp only; rw [List.length_set]; exact w7), fun y hy => ?_, w9, w10, w11, w12, w13⟩
          rcases List.mem_or_eq_of_mem_set hy with hy | hy
          · exact w8 y hy
          · subst hy
            exact ⟨hl.1, hl.2.1, hl.2.2.1, wrWf _ _ _ hl.2.2.2⟩
        · exact nilWf
      · exact nilWf
  · exact nilWf
set_option maxHeartbeats 4000000 in
theorem law_fn (c : DConn) (id : Int) (b : List UInt8) (fin : Bool) (hu : U.wfConn c) (hb : b.length ≤ 1048576) : Fn Try.prog 7 [.agg (encConn c), .lit (.int .i64 id), .ro (b.map encB), .lit (.bool fin)] (.lit (.bool true)) := by
  have hw := U.wf_leConn c hu
  have h1 := connWrite_fn c id b fin hw hb
  have h2 := connWritten_fn c id b fin hu hb
  have h3 := sameConn_refl _ (writeWf c id b fin hw)
  clear hu hw
  generalize cnWriteR c id b fin = x at *
  obtain ⟨x, e⟩ := x
  unfold encCnE at h1 h2
  dsimp only at *
  refine fn_of_run (by kernel_rfl) Try.func7 rfl (by kernel_rfl) ?_
  (repeat' first | (refine s_call (h1) (h := ?_)) | (refine p_call (h1) (h := ?_)) | (refine s_call (h2) (h := ?_)) | (refine p_call (h2) (h := ?_)) | (refine s_call (h3) (h := ?_)) | (refine p_call (h3) (h := ?_)) | (refine go_ ?_; ((repeat' first | exact True.intro | refine Two.mk ?_ ?_); all_goals intros)) | fail "")
  all_goals first
    | exact ends_ (hr := rfl)
    | (exfalso; simp at *; done)
    | skip

theorem walk (W : World) (v0 : Value) (v1 : Value) (v2 : Value) (v3 : Value) (h0 : U.ArgIs Try.prog W 59 v0) (h1 : U.ArgIs Try.prog W 3 v1) (h2 : U.ArgIs Try.prog W 22 v2) (h3 : U.ArgIs Try.prog W 4 v3) :
    Calls Try.prog 7 #[v0, v1, v2, v3] W fun e W' => e = .returned (.bool true) ∧ Below W.heap.size W W' := by
  obtain ⟨c0, rfl, g0⟩ := h0.struct_ Try.underlying59
  obtain ⟨x0, r0, w0⟩ := U.rConn_of_cells _ g0
  obtain ⟨x1, rfl, w1⟩ := h1.int_ Try.underlying3
  replace w1 := i64_of_wf w1
  obtain ⟨a2, n2, b2, rfl, g2⟩ := h2.slice_ Try.underlying22
  obtain ⟨x2, r2, w2, u2⟩ := U.rd_of_slice (enc := encB) (wf := fun _ => True) (size := 1) (bytes := 1) Try.underlying22 (by kernel_rfl) (by kernel_rfl) (by decide) (fun es h => U.rdB_of_cells Try.underlying5 es h) g2
  obtain ⟨x3, rfl⟩ := h3.bool_ Try.underlying4
  exact law_of_fn (law_fn x0 x1 x2 x3 w0 (by omega)) (.cons (argv_agg r0) (.cons (argv_lit rfl) (.cons (argv_ro r2) (.cons (argv_lit rfl) (.nil)))))

set_option maxRecDepth 100000 in
theorem lifted (os : Os) (started : os.Started) (H : Type) (enc : TypeId × Value → H) (F : Stop.Interp) :
    ReturnsInHanded {} Try.checked os 7 .any ((Rows.OpenSpec.upto Rows.connWritesSpec).pre6 enc Try.prog Try.f7 Rows.connWritesUptoRow.domain false) (((Rows.OpenSpec.upto Rows.connWritesSpec).at F).post enc Try.prog Try.f7 false true false false) :=
  U.law_lifted (C := Try.checked) (s := Rows.connWritesSpec) (by kernel_rfl) started (by kernel_rfl) Try.func7
    (OpenSpec.witness (enc := enc) (C := Try.checked) (s := Rows.OpenSpec.upto Rows.connWritesSpec) (k := Rows.uptoSmall) rfl false ⟨#[], #[.agg #[.bool false, .int .i64 0, .slice none 0 0, .int .i64 0, .slice none 0 0, .slice none 0 0, .int .i64 0, .int .i64 0, .int .i64 0, .int .i64 0, .int .i64 0, .int .i64 0, .int .i64 0, .int .i64 0, .int .i64 0, .int .i64 0, .int .i64 0, .slice none 0 0, .bool false, .slice none 0 0, .int .i64 0, .int .i64 0, .bool false, .int .i64 0], .int .i64 0, .slice none 0 0, .bool false], []⟩ 8 (by kernel_rfl) (by kernel_rfl) (by kernel_rfl)
      (x := ([.agg [.lit (.bool false), .agg [.lit (.int .i64 0), .nil, .lit (.int .i64 0), .nil, .nil], .agg [.lit (.int .i64 0), .lit (.int .i64 0), .lit (.int .i64 0), .lit (.int .i64 0)], .agg [.lit (.int .i64 0), .lit (.int .i64 0)], .agg [.lit (.int .i64 0), .lit (.int .i64 0)], .lit (.int .i64 0), .lit (.int .i64 0), .lit (.int .i64 0), .nil, .lit (.bool false), .nil, .lit (.int .i64 0), .lit (.int .i64 0), .lit (.bool false), .lit (.int .i64 0)], .lit (.int .i64 0), .nil, .lit (.bool false)], [], [])) (by kernel_rfl) rfl (by kernel_rfl))
    (by kernel_rfl) rfl (fun ds hd => by
      match ds, hd with
      | [_, _, _, _], _ => rfl) rfl Try.underlying4 (by kernel_rfl)
    (fun W args h => by
      rw [Try.params7] at h
      obtain ⟨v0, l0, e0, h0, r0⟩ := h
      obtain ⟨v1, l1, e1, h1, r1⟩ := r0
      obtain ⟨v2, l2, e2, h2, r2⟩ := r1
      obtain ⟨v3, l3, e3, h3, r3⟩ := r2
      have r3' : l3 = [] := r3
      obtain rfl : args = #[v0, v1, v2, v3] := by
        apply Array.toList_inj.1
        rw [e0, e1, e2, e3, r3']
      exact walk W v0 v1 v2 v3 h0 h1 h2 h3)

set_option maxHeartbeats 16000000 in
theorem closed : joinedFacts Try.pinned.checked.prog 7 Try.f7 ((Rows.OpenSpec.upto Rows.connWritesSpec).bare) Rows.connWritesUptoRow = true := by
  unfold joinedFacts
  simp only [Bool.and_eq_true]
  repeat' apply And.intro
  all_goals decide +kernel

theorem over : Rows.connWritesUptoRow.holds Try.pinned (Rows.OpenSpec.upto Rows.connWritesSpec) :=
  OpenClaim.holds_of_cond 7 Try.f7 rfl rfl rfl rfl rfl rfl rfl ⟨rfl, rfl, rfl, rfl, rfl⟩ rfl rfl rfl rfl rfl (by kernel_rfl) Try.func7 closed
    (of_decide_eq_true (by kernel_rfl)) (by unfold Func.isWrapper; first | (rw [if_pos (by decide +kernel)]; kernel_rfl) | (rw [if_neg (by decide +kernel)]; exact ⟨rfl, rfl⟩))
    (fun os started H enc _ F => lifted os started H enc F)

theorem proved : Rows.ConnWritesUptoSaid := over
#print axioms proved

end Go.Proofs.Ytfdomanbdfekhaa.connWritesUpto
