/-
  ConnFlushes: conn.Flush answers what P18.8 says, within the bound of the second form.
-/
import Derived.Test.YtfdomanbdfekhaaGA
import Derived.Test.YtfdomanbdfekhaaFlC
import Derived.Test.YtfdomanbdfekhaaCnS
import Derived.Test.YtfdomanbdfekhaaCells
import Derived.Test.YtfdomanbdfekhaaCellsU
set_option linter.unusedSimpArgs false
set_option linter.unusedVariables false
namespace Go.Proofs.Ytfdomanbdfekhaa.connFlushesUpto
open Go.ChangeShapes Go.WideShapes Go.ChangeAt Go.RowKit
set_option maxRecDepth 100000
attribute [local irreducible] Run RunL QStep GStep Fn Less PL FnM

theorem nilWf : wfConn default := by
  unfold wfConn wfSpace wfPace wfFlow I64
  refine ⟨⟨by decide, by decide, (fun y hy => by cases hy), by decide, by decide, (fun y hy => by cases hy), by decide, (fun y hy => by cases hy)⟩, by decide, by decide, by decide, by decide, by decide, by decide, by decide, (fun y hy => by cases hy), by decide, (fun y hy => by cases hy), by decide, by decide, by decide⟩
theorem quWf (c : DConn) (l : List DFrame) (hw : wfConn c) (hl : okFs l) (hn : l.length ≤ 12) : wfConn (quietR c l).1 ∧ (∀ f ∈ (quietR c l).2.2.1, wfFrame f) ∧ (quietR c l).2.2.1.length ≤ 12 := by
  unfold quietR
  split
  · exact ⟨hw, (fun f hf => by cases hf), by simp⟩
  · split
    · obtain ⟨w0, w1, w2, w3, w4, w5, w6, w7, w8, w9, w10, w11, w12, w13⟩ := hw
      refine ⟨⟨spQuiet_wf _ w0, w1, w2, w3, w4, w5, w6, w7, w8, ?_, ?_, w11, w12, w13⟩, fun f hf => (hl f hf).1, hn⟩
      · dsimp only; split
        · simp
        · exact w9
      · dsimp only; split
        · intro y hy; cases hy
        · exact w10
    · exact ⟨nilWf, (fun f hf => by cases hf), by simp⟩
theorem flWf (c : DConn) (now : Int) (hu : U.wfConn c) : wfConn (flR c now).1 ∧ (∀ f ∈ (flR c now).2.2.1, wfFrame f) ∧ (flR c now).2.2.1.length ≤ 12 := by
  have hw := U.wf_leConn c hu
  unfold flR
  rcases cnFlt_cases c with ⟨h0, hok⟩ | ⟨h0, hok⟩
  · rw [if_pos h0]
    split
    · have hcn := hok.1.1.1
      have hn := hcn.2
      unfold cnNum at hn
      have hqok : okFs c.Queue := fun f hf => ⟨hw.2.2.2.2.2.2.2.2.2.2.1 f hf, (allTo_memA (Q := fun x => frFlt x = 0)).1 hok.1.2 f hf⟩
      split
      · exact quWf c c.Queue hw hqok (by omega)
      · have hsp : spFlt c.Space = 0 := hcn.1.1
        have hspo := (spFlt_ok hsp).1.1
        unfold spHead at hspo
        have hAok : okFs (ackL c) ∧ (ackL c).length ≤ 1 := by
          unfold ackL
          split
          · rename_i h
            have := ack_ok (l := c.Space.Heard) hw.1.2.2.2.2.2.1 hspo.2.2.2.2.2.1 h.2 hspo.2.2.2.2.2.2.1
            exact ⟨fun f hf => by rw [List.mem_singleton] at hf; exact hf ▸ this, by simp⟩
          · exact ⟨(fun f hf => by cases hf), by simp⟩
        have hfl : flwOk c.Credit := by have h := hcn.1.2.2.2; unfold flwFlt at h; split at h; (assumption); (cases h)
        unfold flwOk at hfl
        have hlu : ∀ y, y ∈ c.Lanes → U.wfLane y ∧ 0 ≤ y.Id ∧ y.Id ≤ 4611686018427387903 := fun y hy => ⟨hu.2.2.2.2.2.2.2.2.1 y hy, by
          obtain ⟨i, hi, rfl⟩ := List.getElem_of_mem hy
          have hln := hok.1.1.2
          have h1 := (ln_low hln i hi)
          have h2 := (hln i hi).2.1
          rw [List.getD_eq_getElem?_getD, List.getElem?_eq_getElem hi] at h1 h2
          dsimp only [Option.getD_some] at h1 h2
          omega⟩
        obtain ⟨tk1, tk2, tk3, tk4, tk5⟩ := takeQ_ok c.Queue (ackL c) hqok hAok.1 (by omega)
        obtain ⟨g1, g2, g3, g4, g5⟩ := packN_ok (cr := c.Credit.Max) hlu c.Lanes.length 0 (c.Lanes, c.Credit.Used, (takeQ c.Queue (ackL c)).1) (by omega) rfl (fun y hy => U.wf_leLane y (hlu y hy).1) (by dsimp only; omega) tk1 (by dsimp only; omega)
        unfold flTry flPk
        split
        · exact ⟨cnSn_wf hw (by omega) g2 (by omega) (by omega) (fun f hf => (tk2 f hf).1) (paceSend_wf _ _ hw.2.1) (spSend_wf _ _ _ _ hw.1 (by omega) (fun f hf => (g4 f hf).1)), fun f hf => (g4 f hf).1, g5⟩
        · exact quWf c (ackL c) hw hAok.1 (by omega)
    · exact ⟨nilWf, (fun f hf => by cases hf), by simp⟩
  · rw [if_neg (by omega)]
    exact ⟨nilWf, (fun f hf => by cases hf), by simp⟩
set_option maxHeartbeats 4000000 in
theorem law_fn (c : DConn) (now : Int) (hu : U.wfConn c) : Fn Try.prog 10 [.agg (encConn c), .lit (.int .i64 now)] (.lit (.bool true)) := by
  have h1 := connFlush_fn c now hu
  have h2 := connFlushed_fn c now hu
  obtain ⟨q1, q2, q3⟩ := flWf c now hu
  have h3 := sameConn_refl _ q1
  have h4 := sameFrames_fn _ _ (by omega) (by omega) q2 q2
  rw [yes_of rfl] at h4
  clear hu q1 q2 q3
  generalize flR c now = x at *
  obtain ⟨x, n, l, e⟩ := x
  unfold encFl at h1 h2
  dsimp only at *
  refine fn_of_run (by kernel_rfl) Try.func10 rfl (by kernel_rfl) ?_
  (repeat' first | (refine s_call (h1) (h := ?_)) | (refine p_call (h1) (h := ?_)) | (refine s_call (h2) (h := ?_)) | (refine p_call (h2) (h := ?_)) | (refine s_call (h3) (h := ?_)) | (refine p_call (h3) (h := ?_)) | (refine s_call (h4) (h := ?_)) | (refine p_call (h4) (h := ?_)) | (refine go_ ?_; ((repeat' first | exact True.intro | refine Two.mk ?_ ?_); all_goals intros)) | fail "")
  all_goals first
    | exact ends_ (hr := rfl)
    | (exfalso; simp at *; done)
    | skip

theorem walk (W : World) (v0 : Value) (v1 : Value) (h0 : U.ArgIs Try.prog W 59 v0) (h1 : U.ArgIs Try.prog W 3 v1) :
    Calls Try.prog 10 #[v0, v1] W fun e W' => e = .returned (.bool true) ∧ Below W.heap.size W W' := by
  obtain ⟨c0, rfl, g0⟩ := h0.struct_ Try.underlying59
  obtain ⟨x0, r0, w0⟩ := U.rConn_of_cells _ g0
  obtain ⟨x1, rfl, w1⟩ := h1.int_ Try.underlying3
  replace w1 := i64_of_wf w1
  exact law_of_fn (law_fn x0 x1 w0) (.cons (argv_agg r0) (.cons (argv_lit rfl) (.nil)))

set_option maxRecDepth 100000 in
theorem lifted (os : Os) (started : os.Started) (H : Type) (enc : TypeId × Value → H) (F : Stop.Interp) :
    ReturnsInHanded {} Try.checked os 10 .any ((Rows.OpenSpec.upto Rows.connFlushesSpec).pre6 enc Try.prog Try.f10 Rows.connFlushesUptoRow.domain false) (((Rows.OpenSpec.upto Rows.connFlushesSpec).at F).post enc Try.prog Try.f10 false true false false) :=
  U.law_lifted (C := Try.checked) (s := Rows.connFlushesSpec) (by kernel_rfl) started (by kernel_rfl) Try.func10
    (OpenSpec.witness (enc := enc) (C := Try.checked) (s := Rows.OpenSpec.upto Rows.connFlushesSpec) (k := Rows.uptoSmall) rfl false ⟨#[], #[.agg #[.bool false, .int .i64 0, .slice none 0 0, .int .i64 0, .slice none 0 0, .slice none 0 0, .int .i64 0, .int .i64 0, .int .i64 0, .int .i64 0, .int .i64 0, .int .i64 0, .int .i64 0, .int .i64 0, .int .i64 0, .int .i64 0, .int .i64 0, .slice none 0 0, .bool false, .slice none 0 0, .int .i64 0, .int .i64 0, .bool false, .int .i64 0], .int .i64 0], []⟩ 8 (by kernel_rfl) (by kernel_rfl) (by kernel_rfl)
      (x := ([.agg [.lit (.bool false), .agg [.lit (.int .i64 0), .nil, .lit (.int .i64 0), .nil, .nil], .agg [.lit (.int .i64 0), .lit (.int .i64 0), .lit (.int .i64 0), .lit (.int .i64 0)], .agg [.lit (.int .i64 0), .lit (.int .i64 0)], .agg [.lit (.int .i64 0), .lit (.int .i64 0)], .lit (.int .i64 0), .lit (.int .i64 0), .lit (.int .i64 0), .nil, .lit (.bool false), .nil, .lit (.int .i64 0), .lit (.int .i64 0), .lit (.bool false), .lit (.int .i64 0)], .lit (.int .i64 0)], [], [])) (by kernel_rfl) rfl (by kernel_rfl))
    (by kernel_rfl) rfl (fun ds hd => by
      match ds, hd with
      | [_, _], _ => rfl) rfl Try.underlying4 (by kernel_rfl)
    (fun W args h => by
      rw [Try.params10] at h
      obtain ⟨v0, l0, e0, h0, r0⟩ := h
      obtain ⟨v1, l1, e1, h1, r1⟩ := r0
      have r1' : l1 = [] := r1
      obtain rfl : args = #[v0, v1] := by
        apply Array.toList_inj.1
        rw [e0, e1, r1']
      exact walk W v0 v1 h0 h1)

set_option maxHeartbeats 16000000 in
theorem closed : joinedFacts Try.pinned.checked.prog 10 Try.f10 ((Rows.OpenSpec.upto Rows.connFlushesSpec).bare) Rows.connFlushesUptoRow = true := by
  unfold joinedFacts
  simp only [Bool.and_eq_true]
  repeat' apply And.intro
  all_goals decide +kernel

theorem over : Rows.connFlushesUptoRow.holds Try.pinned (Rows.OpenSpec.upto Rows.connFlushesSpec) :=
  OpenClaim.holds_of_cond 10 Try.f10 rfl rfl rfl rfl rfl rfl rfl ⟨rfl, rfl, rfl, rfl, rfl⟩ rfl rfl rfl rfl rfl (by kernel_rfl) Try.func10 closed
    (of_decide_eq_true (by kernel_rfl)) (by unfold Func.isWrapper; first | (rw [if_pos (by decide +kernel)]; kernel_rfl) | (rw [if_neg (by decide +kernel)]; exact ⟨rfl, rfl⟩))
    (fun os started H enc _ F => lifted os started H enc F)

theorem proved : Rows.ConnFlushesUptoSaid := over
#print axioms proved

end Go.Proofs.Ytfdomanbdfekhaa.connFlushesUpto
