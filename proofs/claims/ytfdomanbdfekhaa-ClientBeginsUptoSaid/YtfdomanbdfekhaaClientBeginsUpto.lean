/-
  ClientBegins: client.Check, client.Begin and client.Hello answer what P20.1 to P20.3 say, within the bound of the second form.
-/
import Derived.Test.YtfdomanbdfekhaaGA
import Derived.Test.YtfdomanbdfekhaaClB
import Derived.Test.YtfdomanbdfekhaaClS
import Derived.Test.YtfdomanbdfekhaaCells
import Derived.Test.YtfdomanbdfekhaaCellsU
set_option linter.unusedSimpArgs false
set_option linter.unusedVariables false
namespace Go.Proofs.Ytfdomanbdfekhaa.clientBeginsUpto
open Go.ChangeShapes Go.WideShapes Go.ChangeAt Go.RowKit
set_option maxRecDepth 100000
attribute [local irreducible] Run RunL QStep GStep Fn Less PL FnM

theorem begWf (peer id word now : Int) (h1 : I64 peer) (h2 : I64 id) (h3 : U64 word) : wfClient (clBegR peer id word now).1 := by
  unfold clBegR
  split
  · rename_i h
    have h4 := h.2
    unfold wfClient cnBegR
    rw [if_pos h4]
    unfold wfConn wfSpace wfPace wfFlow
    unfold I64 at *
    unfold U64 at *
    dsimp only
    refine ⟨h1, h2, h3, by simp, by omega, by omega, ⟨by omega, by simp, (fun y hy => by cases hy), by omega, by simp, (fun y hy => by cases hy), by simp, (fun y hy => by cases hy)⟩, by omega, by omega, by omega, by (split <;> omega), by (split <;> omega), by omega, by simp, (fun y hy => by cases hy), by simp, (fun y hy => by cases hy), by omega, by omega, by omega⟩
  · unfold wfClient wfConn wfSpace wfPace wfFlow I64 U64
    refine ⟨by decide, by decide, by decide, by decide, by decide, by decide, ⟨by decide, by decide, (fun y hy => by cases hy), by decide, by decide, (fun y hy => by cases hy), by decide, (fun y hy => by cases hy)⟩, by decide, by decide, by decide, by decide, by decide, by decide, by decide, (fun y hy => by cases hy), by decide, (fun y hy => by cases hy), by decide, by decide, by decide⟩
set_option maxHeartbeats 4000000 in
theorem law_fn (peer id word now : Int) (c : DClient) (h1 : I64 peer) (h2 : I64 id) (h3 : U64 word) (hu : U.wfClient c) : Fn Try.prog 9 [.lit (.int .i64 peer), .lit (.int .i64 id), .lit (.int .u64 word), .lit (.int .i64 now), .agg (encClient c)] (.lit (.bool true)) := by
  have hw := U.wf_leClient c hu
  have g1 := clientCheck_fn c hw
  have g2 := clientFault_fn c hu
  have g3 := clientBegin_fn peer id word now
  have g4 := clientBegun_fn peer id word now
  have g5 := clientHello_fn c hw
  have g6 := clientHelloRef_fn c hu
  have g7 := sameClient_refl _ (begWf peer id word now h1 h2 h3)
  have g8 := sameBytes_fn (clHelR c).1 (clHelR c).1
  rw [yes_of rfl] at g8
  clear hu hw h1 h2 h3
  generalize clFlt c = f at *
  generalize clBegR peer id word now = x at *
  generalize clHelR c = y at *
  obtain ⟨x, e⟩ := x
  obtain ⟨y, i⟩ := y
  unfold encClE at g3 g4
  unfold encPk at g5 g6
  dsimp only at *
  refine fn_of_run (by kernel_rfl) Try.func9 rfl (by kernel_rfl) ?_
  (repeat' first | (refine s_call (g1) (h := ?_)) | (refine p_call (g1) (h := ?_)) | (refine s_call (g2) (h := ?_)) | (refine p_call (g2) (h := ?_)) | (refine s_call (g3) (h := ?_)) | (refine p_call (g3) (h := ?_)) | (refine s_call (g4) (h := ?_)) | (refine p_call (g4) (h := ?_)) | (refine s_call (g5) (h := ?_)) | (refine p_call (g5) (h := ?_)) | (refine s_call (g6) (h := ?_)) | (refine p_call (g6) (h := ?_)) | (refine s_call (g7) (h := ?_)) | (refine p_call (g7) (h := ?_)) | (refine s_call (g8) (h := ?_)) | (refine p_call (g8) (h := ?_)) | (refine go_ ?_; ((repeat' first | exact True.intro | refine Two.mk ?_ ?_); all_goals intros)) | fail "")
  all_goals first
    | exact ends_ (hr := rfl)
    | (exfalso; simp at *; done)
    | skip

theorem walk (W : World) (v0 : Value) (v1 : Value) (v2 : Value) (v3 : Value) (v4 : Value) (h0 : U.ArgIs Try.prog W 3 v0) (h1 : U.ArgIs Try.prog W 3 v1) (h2 : U.ArgIs Try.prog W 36 v2) (h3 : U.ArgIs Try.prog W 3 v3) (h4 : U.ArgIs Try.prog W 70 v4) :
    Calls Try.prog 9 #[v0, v1, v2, v3, v4] W fun e W' => e = .returned (.bool true) ∧ Below W.heap.size W W' := by
  obtain ⟨x0, rfl, w0⟩ := h0.int_ Try.underlying3
  replace w0 := i64_of_wf w0
  obtain ⟨x1, rfl, w1⟩ := h1.int_ Try.underlying3
  replace w1 := i64_of_wf w1
  obtain ⟨x2, rfl, w2⟩ := h2.int_ Try.underlying36
  replace w2 := u64_of_wf w2
  obtain ⟨x3, rfl, w3⟩ := h3.int_ Try.underlying3
  replace w3 := i64_of_wf w3
  obtain ⟨c4, rfl, g4⟩ := h4.struct_ Try.underlying70
  obtain ⟨x4, r4, w4⟩ := U.rClient_of_cells _ g4
  exact law_of_fn (law_fn x0 x1 x2 x3 x4 w0 w1 w2 w4) (.cons (argv_lit rfl) (.cons (argv_lit rfl) (.cons (argv_lit rfl) (.cons (argv_lit rfl) (.cons (argv_agg r4) (.nil))))))

set_option maxRecDepth 100000 in
theorem lifted (os : Os) (started : os.Started) (H : Type) (enc : TypeId × Value → H) (F : Stop.Interp) :
    ReturnsInHanded {} Try.checked os 9 .any ((Rows.OpenSpec.upto Rows.clientBeginsSpec).pre6 enc Try.prog Try.f9 Rows.clientBeginsUptoRow.domain false) (((Rows.OpenSpec.upto Rows.clientBeginsSpec).at F).post enc Try.prog Try.f9 false true false false) :=
  U.law_lifted (C := Try.checked) (s := Rows.clientBeginsSpec) (by kernel_rfl) started (by kernel_rfl) Try.func9
    (OpenSpec.witness (enc := enc) (C := Try.checked) (s := Rows.OpenSpec.upto Rows.clientBeginsSpec) (k := Rows.uptoSmall) rfl false ⟨#[], #[.int .i64 0, .int .i64 0, .int .u64 0, .int .i64 0, .agg #[.int .i64 0, .int .i64 0, .int .u64 0, .slice none 0 0, .int .i64 0, .int .u64 0, .bool false, .int .i64 0, .slice none 0 0, .int .i64 0, .slice none 0 0, .slice none 0 0, .int .i64 0, .int .i64 0, .int .i64 0, .int .i64 0, .int .i64 0, .int .i64 0, .int .i64 0, .int .i64 0, .int .i64 0, .int .i64 0, .int .i64 0, .slice none 0 0, .bool false, .slice none 0 0, .int .i64 0, .int .i64 0, .bool false, .int .i64 0]], []⟩ 8 (by kernel_rfl) (by kernel_rfl) (by kernel_rfl)
      (x := ([.lit (.int .i64 0), .lit (.int .i64 0), .lit (.int .u64 0), .lit (.int .i64 0), .agg [.lit (.int .i64 0), .lit (.int .i64 0), .lit (.int .u64 0), .nil, .lit (.int .i64 0), .lit (.int .u64 0), .agg [.lit (.bool false), .agg [.lit (.int .i64 0), .nil, .lit (.int .i64 0), .nil, .nil], .agg [.lit (.int .i64 0), .lit (.int .i64 0), .lit (.int .i64 0), .lit (.int .i64 0)], .agg [.lit (.int .i64 0), .lit (.int .i64 0)], .agg [.lit (.int .i64 0), .lit (.int .i64 0)], .lit (.int .i64 0), .lit (.int .i64 0), .lit (.int .i64 0), .nil, .lit (.bool false), .nil, .lit (.int .i64 0), .lit (.int .i64 0), .lit (.bool false), .lit (.int .i64 0)]]], [], [])) (by kernel_rfl) rfl (by kernel_rfl))
    (by kernel_rfl) rfl (fun ds hd => by
      match ds, hd with
      | [_, _, _, _, _], _ => rfl) rfl Try.underlying4 (by kernel_rfl)
    (fun W args h => by
      rw [Try.params9] at h
      obtain ⟨v0, l0, e0, h0, r0⟩ := h
      obtain ⟨v1, l1, e1, h1, r1⟩ := r0
      obtain ⟨v2, l2, e2, h2, r2⟩ := r1
      obtain ⟨v3, l3, e3, h3, r3⟩ := r2
      obtain ⟨v4, l4, e4, h4, r4⟩ := r3
      have r4' : l4 = [] := r4
      obtain rfl : args = #[v0, v1, v2, v3, v4] := by
        apply Array.toList_inj.1
        rw [e0, e1, e2, e3, e4, r4']
      exact walk W v0 v1 v2 v3 v4 h0 h1 h2 h3 h4)

set_option maxHeartbeats 16000000 in
theorem closed : joinedFacts Try.pinned.checked.prog 9 Try.f9 ((Rows.OpenSpec.upto Rows.clientBeginsSpec).bare) Rows.clientBeginsUptoRow = true := by
  unfold joinedFacts
  simp only [Bool.and_eq_true]
  repeat' apply And.intro
  all_goals decide +kernel

theorem over : Rows.clientBeginsUptoRow.holds Try.pinned (Rows.OpenSpec.upto Rows.clientBeginsSpec) :=
  OpenClaim.holds_of_cond 9 Try.f9 rfl rfl rfl rfl rfl rfl rfl ⟨rfl, rfl, rfl, rfl, rfl⟩ rfl rfl rfl rfl rfl (by kernel_rfl) Try.func9 closed
    (of_decide_eq_true (by kernel_rfl)) (by unfold Func.isWrapper; first | (rw [if_pos (by decide +kernel)]; kernel_rfl) | (rw [if_neg (by decide +kernel)]; exact ⟨rfl, rfl⟩))
    (fun os started H enc _ F => lifted os started H enc F)

theorem proved : Rows.ClientBeginsUptoSaid := over
#print axioms proved

end Go.Proofs.Ytfdomanbdfekhaa.clientBeginsUpto
