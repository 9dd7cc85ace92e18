/-
  ConnRetires: conn.Retire answers what P18.7 says, within the bound of the second form.
-/
import Derived.Test.YtfdomanbdfekhaaGo
import Derived.Test.YtfdomanbdfekhaaCnR
import Derived.Test.YtfdomanbdfekhaaCnS
import Derived.Test.YtfdomanbdfekhaaCells
import Derived.Test.YtfdomanbdfekhaaCellsU
set_option linter.unusedSimpArgs false
set_option linter.unusedVariables false
namespace Go.Proofs.Ytfdomanbdfekhaa.connRetiresUpto
open Go.ChangeShapes Go.WideShapes Go.ChangeAt Go.RowKit
set_option maxRecDepth 100000
attribute [local irreducible] Run RunL QStep GStep Fn Less PL FnM

theorem nilWf : wfConn default := by
  unfold wfConn wfSpace wfPace wfFlow I64
  refine ⟨⟨by decide, by decide, (fun y hy => by cases hy), by decide, by decide, (fun y hy => by cases hy), by decide, (fun y hy => by cases hy)⟩, by decide, by decide, by decide, by decide, by decide, by decide, by decide, (fun y hy => by cases hy), by decide, (fun y hy => by cases hy), by decide, by decide, by decide⟩
theorem idsWf (n : Int) (h : I64 n) : wfFrame (idsF n) := by
  unfold idsF wfFrame
  exact ⟨by unfold I64; dsimp only; omega, by unfold I64; dsimp only; omega, h, by unfold I64; dsimp only; omega, by simp, (fun y hy => by cases hy), by simp⟩
theorem retWf (c : DConn) (id : Int) (hw : wfConn c) : wfConn (cnRetR c id).1 := by
  unfold cnRetR
  rcases cnFlt_cases c with ⟨h0, hok⟩ | ⟨h0, hok⟩
  · obtain ⟨r1, r2, r3, r4⟩ := cn_room hok
    have r5 : 0 ≤ c.Grant ∧ c.Grant ≤ 4611686018427387903 := by have := hok.1.1.1.2; unfold cnNum at this; omega
    rw [if_pos h0]
    obtain ⟨w0, w1, w2, w3, w4, w5, w6, w7, w8, w9, w10, w11, w12, w13⟩ := hw
    have hl : (c.Lanes.filter (noId id)).length ≤ c.Lanes.length := List.length_filter_le _ _
    have hm : ∀ y, y ∈ c.Lanes.filter (noId id) → wfLane y := fun y hy => w8 y (List.mem_filter.1 hy).1
    split
    · split
      · split
        · split
          · have q1 := qTell_len c.Queue (idsF (c.Grant + 1)) r2
            have q2 := qTell_wf c.Queue (idsF (c.Grant + 1)) w10 (idsWf _ (by unfold I64; omega))
            exact ⟨w0, w1, w2, w3, w4, (by unfold cnQ cnMore cnDrop I64; dsimp only; omega), w6, (by unfold cnQ cnMore cnDrop; dsimp only; omega), hm, (by unfold cnQ cnMore cnDrop; dsimp only; omega), q2, w11, w12, w13⟩
          · exact nilWf
        · exact ⟨w0, w1, w2, w3, w4, w5, w6, (by unfold cnDrop; dsimp only; omega), hm, w9, w10, w11, w12, w13⟩
      · exact nilWf
    · exact nilWf
  · rw [if_neg (by omega)]
    exact nilWf
set_option maxHeartbeats 4000000 in
theorem law_fn (c : DConn) (id : Int) (hu : U.wfConn c) : Fn Try.prog 8 [.agg (encConn c), .lit (.int .i64 id)] (.lit (.bool true)) := by
  have hw := U.wf_leConn c hu
  have h1 := connRetire_fn c id hw
  have h2 := connRetired_fn c id hu
  have h3 := sameConn_refl _ (retWf c id hw)
  clear hu hw
  generalize cnRetR c id = x at *
  obtain ⟨x, e⟩ := x
  unfold encCnE at h1 h2
  dsimp only at *
  refine fn_of_run (by kernel_rfl) Try.func8 rfl (by kernel_rfl) ?_
  (repeat' first | (refine s_call (h1) (h := ?_)) | (refine p_call (h1) (h := ?_)) | (refine s_call (h2) (h := ?_)) | (refine p_call (h2) (h := ?_)) | (refine s_call (h3) (h := ?_)) | (refine p_call (h3) (h := ?_)) | (refine go_ ?_; ((repeat' first | exact True.intro | refine Two.mk ?_ ?_); all_goals intros)) | fail "")
  all_goals first
    | exact ends_ (hr := rfl)
    | (exfalso; simp at *; done)
    | skip

theorem walk (W : World) (v0 : Value) (v1 : Value) (h0 : U.ArgIs Try.prog W 59 v0) (h1 : U.ArgIs Try.prog W 3 v1) :
    Calls Try.prog 8 #[v0, v1] W fun e W' => e = .returned (.bool true) ∧ Below W.heap.size W W' := by
  obtain ⟨c0, rfl, g0⟩ := h0.struct_ Try.underlying59
  obtain ⟨x0, r0, w0⟩ := U.rConn_of_cells _ g0
  obtain ⟨x1, rfl, w1⟩ := h1.int_ Try.underlying3
  replace w1 := i64_of_wf w1
  exact law_of_fn (law_fn x0 x1 w0) (.cons (argv_agg r0) (.cons (argv_lit rfl) (.nil)))

set_option maxRecDepth 100000 in
theorem lifted (os : Os) (started : os.Started) (H : Type) (enc : TypeId × Value → H) (F : Stop.Interp) :
    ReturnsInHanded {} Try.checked os 8 .any ((Rows.OpenSpec.upto Rows.connRetiresSpec).pre6 enc Try.prog Try.f8 Rows.connRetiresUptoRow.domain false) (((Rows.OpenSpec.upto Rows.connRetiresSpec).at F).post enc Try.prog Try.f8 false true false false) :=
  U.law_lifted (C := Try.checked) (s := Rows.connRetiresSpec) (by kernel_rfl) started (by kernel_rfl) Try.func8
    (OpenSpec.witness (enc := enc) (C := Try.checked) (s := Rows.OpenSpec.upto Rows.connRetiresSpec) (k := Rows.uptoSmall) rfl false ⟨#[], #[.agg #[.bool false, .int .i64 0, .slice none 0 0, .int .i64 0, .slice none 0 0, .slice none 0 0, .int .i64 0, .int .i64 0, .int .i64 0, .int .i64 0, .int .i64 0, .int .i64 0, .int .i64 0, .int .i64 0, .int .i64 0, .int .i64 0, .int .i64 0, .slice none 0 0, .bool false, .slice none 0 0, .int .i64 0, .int .i64 0, .bool false, .int .i64 0], .int .i64 0], []⟩ 8 (by kernel_rfl) (by kernel_rfl) (by kernel_rfl)
      (x := ([.agg [.lit (.bool false), .agg [.lit (.int .i64 0), .nil, .lit (.int .i64 0), .nil, .nil], .agg [.lit (.int .i64 0), .lit (.int .i64 0), .lit (.int .i64 0), .lit (.int .i64 0)], .agg [.lit (.int .i64 0), .lit (.int .i64 0)], .agg [.lit (.int .i64 0), .lit (.int .i64 0)], .lit (.int .i64 0), .lit (.int .i64 0), .lit (.int .i64 0), .nil, .lit (.bool false), .nil, .lit (.int .i64 0), .lit (.int .i64 0), .lit (.bool false), .lit (.int .i64 0)], .lit (.int .i64 0)], [], [])) (by kernel_rfl) rfl (by kernel_rfl))
    (by kernel_rfl) rfl (fun ds hd => by
      match ds, hd with
      | [_, _], _ => rfl) rfl Try.underlying4 (by kernel_rfl)
    (fun W args h => by
      rw [Try.params8] at h
      obtain ⟨v0, l0, e0, h0, r0⟩ := h
      obtain ⟨v1, l1, e1, h1, r1⟩ := r0
      have r1' : l1 = [] := r1
      obtain rfl : args = #[v0, v1] := by
        apply Array.toList_inj.1
        rw [e0, e1, r1']
      exact walk W v0 v1 h0 h1)

set_option maxHeartbeats 16000000 in
theorem closed : joinedFacts Try.pinned.checked.prog 8 Try.f8 ((Rows.OpenSpec.upto Rows.connRetiresSpec).bare) Rows.connRetiresUptoRow = true := by
  unfold joinedFacts
  simp only [Bool.and_eq_true]
  repeat' apply And.intro
  all_goals decide +kernel

theorem over : Rows.connRetiresUptoRow.holds Try.pinned (Rows.OpenSpec.upto Rows.connRetiresSpec) :=
  OpenClaim.holds_of_cond 8 Try.f8 rfl rfl rfl rfl rfl rfl rfl ⟨rfl, rfl, rfl, rfl, rfl⟩ rfl rfl rfl rfl rfl (by kernel_rfl) Try.func8 closed
    (of_decide_eq_true (by kernel_rfl)) (by unfold Func.isWrapper; first | (rw [if_pos (by decide +kernel)]; kernel_rfl) | (rw [if_neg (by decide +kernel)]; exact ⟨rfl, rfl⟩))
    (fun os started H enc _ F => lifted os started H enc F)

theorem proved : Rows.ConnRetiresUptoSaid := over
#print axioms proved

end Go.Proofs.Ytfdomanbdfekhaa.connRetiresUpto
