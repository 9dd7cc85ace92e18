/-
  GatePackets: gate.Packet answers what P19.2 says, within the bound of the second form.
-/
import Derived.Test.YthpophgcmgdpjaaGo
import Derived.Test.YthpophgcmgdpjaaGtPr
import Derived.Test.YthpophgcmgdpjaaSameB
import Derived.Test.YthpophgcmgdpjaaCells
import Derived.Test.YthpophgcmgdpjaaCellsU
set_option linter.unusedSimpArgs false
set_option linter.unusedVariables false
namespace Go.Proofs.Ythpophgcmgdpjaa.gatePacketsUpto
open Go.ChangeShapes Go.WideShapes Go.ChangeAt Go.RowKit
set_option maxRecDepth 100000
attribute [local irreducible] Run RunL QStep GStep Fn Less PL FnM

set_option maxHeartbeats 2000000 in
theorem law_fn (key : Int) (h : DHead) (n acked : Int) (l : List DFrame) (hw : wfHead h) (hn : I64 n) (ha : I64 acked) (hl : ∀ f ∈ l, wfFrame f) (hll : l.length ≤ 1048576) : Fn Try.prog 10 [.lit (.int .u64 key), .agg (encHead h), .lit (.int .i64 n), .lit (.int .i64 acked), .ro (l.map encFrame)] (.lit (.bool true)) := by
  have h1 := packet_fn key h n acked l hw hl hll
  have h2 := packetOf_fn key h n acked l hw hn ha hl hll
  have h3 := sameBytes_fn (pktR key h n acked l).1 (pktR key h n acked l).1
  rw [yes_of rfl] at h3
  generalize pktR key h n acked l = x at *
  obtain ⟨x, e⟩ := x
  unfold encPk at h1 h2
  dsimp only at *
  refine fn_of_run (by kernel_rfl) Try.func10 rfl (by kernel_rfl) ?_
  (repeat' first | (refine s_call (h1) (h := ?_)) | (refine p_call (h1) (h := ?_)) | (refine s_call (h2) (h := ?_)) | (refine p_call (h2) (h := ?_)) | (refine s_call (h3) (h := ?_)) | (refine p_call (h3) (h := ?_)) | (refine go_ ?_; ((repeat' first | exact True.intro | refine Two.mk ?_ ?_); all_goals intros)) | fail "")
  all_goals first
    | exact ends_ (hr := rfl)
    | (exfalso; simp at *; done)
    | skip

theorem walk (W : World) (v0 : Value) (v1 : Value) (v2 : Value) (v3 : Value) (v4 : Value) (h0 : U.ArgIs Try.prog W 63 v0) (h1 : U.ArgIs Try.prog W 75 v1) (h2 : U.ArgIs Try.prog W 3 v2) (h3 : U.ArgIs Try.prog W 3 v3) (h4 : U.ArgIs Try.prog W 76 v4) :
    Calls Try.prog 10 #[v0, v1, v2, v3, v4] W fun e W' => e = .returned (.bool true) ∧ Below W.heap.size W W' := by
  obtain ⟨x0, rfl, w0⟩ := h0.int_ Try.underlying63
  replace w0 := u64_of_wf w0
  obtain ⟨c1, rfl, g1⟩ := h1.struct_ Try.underlying75
  obtain ⟨x1, r1, w1⟩ := U.rHead_of_cells _ g1
  obtain ⟨x2, rfl, w2⟩ := h2.int_ Try.underlying3
  replace w2 := i64_of_wf w2
  obtain ⟨x3, rfl, w3⟩ := h3.int_ Try.underlying3
  replace w3 := i64_of_wf w3
  obtain ⟨a4, n4, b4, rfl, g4⟩ := h4.slice_ Try.underlying76
  obtain ⟨x4, r4, w4, u4⟩ := U.rd_of_slice (enc := encFrame) (wf := U.wfFrame) (size := 7) (bytes := 88) Try.underlying76 (by kernel_rfl) (by kernel_rfl) (by decide) (fun es h => U.rFrame_of_cells es h) g4
  exact law_of_fn (law_fn x0 x1 x2 x3 x4 (U.wf_leHead _ w1) w2 w3 (fun y hy => U.wf_leFrame y (u4 y hy)) (by omega)) (.cons (argv_lit rfl) (.cons (argv_agg r1) (.cons (argv_lit rfl) (.cons (argv_lit rfl) (.cons (argv_ro r4) (.nil))))))

set_option maxRecDepth 100000 in
theorem lifted (os : Os) (started : os.Started) (H : Type) (enc : TypeId × Value → H) (F : Stop.Interp) :
    ReturnsInHanded {} Try.checked os 10 .any ((Rows.OpenSpec.upto Rows.gatePacketsSpec).pre6 enc Try.prog Try.f10 Rows.gatePacketsUptoRow.domain false) (((Rows.OpenSpec.upto Rows.gatePacketsSpec).at F).post enc Try.prog Try.f10 false true false false) :=
  U.law_lifted (C := Try.checked) (s := Rows.gatePacketsSpec) (by kernel_rfl) started (by kernel_rfl) Try.func10
    (OpenSpec.witness (enc := enc) (C := Try.checked) (s := Rows.OpenSpec.upto Rows.gatePacketsSpec) (k := Rows.uptoSmall) rfl false ⟨#[], #[.int .u64 0, .agg #[.int .i64 0, .int .i64 0, .int .i64 0, .slice none 0 0, .int .i64 0, .int .i64 0], .int .i64 0, .int .i64 0, .slice none 0 0], []⟩ 8 (by kernel_rfl) (by kernel_rfl) (by kernel_rfl)
      (x := ([.lit (.int .u64 0), .agg [.lit (.int .i64 0), .lit (.int .i64 0), .lit (.int .i64 0), .nil, .lit (.int .i64 0), .lit (.int .i64 0)], .lit (.int .i64 0), .lit (.int .i64 0), .nil], [], [])) (by kernel_rfl) rfl (by kernel_rfl))
    (by kernel_rfl) rfl (fun ds hd => by
      match ds, hd with
      | [_, _, _, _, _], _ => rfl) rfl Try.underlying4 (by kernel_rfl)
    (fun W args h => by
      rw [Try.params10] at h
      obtain ⟨v0, l0, e0, h0, r0⟩ := h
      obtain ⟨v1, l1, e1, h1, r1⟩ := r0
      obtain ⟨v2, l2, e2, h2, r2⟩ := r1
      obtain ⟨v3, l3, e3, h3, r3⟩ := r2
      obtain ⟨v4, l4, e4, h4, r4⟩ := r3
      have r4' : l4 = [] := r4
      obtain rfl : args = #[v0, v1, v2, v3, v4] := by
        apply Array.toList_inj.1
        rw [e0, e1, e2, e3, e4, r4']
      exact walk W v0 v1 v2 v3 v4 h0 h1 h2 h3 h4)

theorem over : Rows.gatePacketsUptoRow.holds Try.pinned (Rows.OpenSpec.upto Rows.gatePacketsSpec) :=
  OpenClaim.holds_of_cond 10 Try.f10 rfl rfl rfl rfl rfl rfl rfl ⟨rfl, rfl, rfl, rfl, rfl⟩ rfl rfl rfl rfl rfl (by kernel_rfl) Try.func10 (by kernel_rfl)
    (of_decide_eq_true (by kernel_rfl)) (by unfold Func.isWrapper; first | (rw [if_pos (by decide +kernel)]; kernel_rfl) | (rw [if_neg (by decide +kernel)]; exact ⟨rfl, rfl⟩))
    (fun os started H enc _ F => lifted os started H enc F)

theorem proved : Rows.GatePacketsUptoSaid := over
#print axioms proved

end Go.Proofs.Ythpophgcmgdpjaa.gatePacketsUpto
