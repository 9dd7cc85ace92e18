/-
  GateUnpacks: gate.Unpack answers what P19.3 says, at every argument. No condition.
-/
import Derived.Test.YthpophgcmgdpjaaGo
import Derived.Test.YthpophgcmgdpjaaGtU
import Derived.Test.YthpophgcmgdpjaaCells
set_option linter.unusedSimpArgs false
set_option linter.unusedVariables false
namespace Go.Proofs.Ythpophgcmgdpjaa.gateUnpacks
open Go.ChangeShapes Go.WideShapes Go.ChangeAt Go.RowKit
set_option maxRecDepth 100000
attribute [local irreducible] Run RunL QStep GStep Fn Less PL FnM

theorem unpR_small (key : Int) (h : DHead) (used top : Int) (b : List UInt8) : (∀ f ∈ (unpR key h used top b).2.1, FSmall f) ∧ (unpR key h used top b).2.1.length ≤ 12 := by
  have hz : (∀ f ∈ ([] : List DFrame), FSmall f) ∧ ([] : List DFrame).length ≤ 12 := ⟨fun f hf => (by cases hf), Nat.zero_le _⟩
  unfold unpR
  split
  · exact hz
  · split
    · exact hz
    · split
      · exact hz
      · split
        · exact hz
        · exact alRun_small (m := 12) (out := []) (fun f hf => (by cases hf)) (by simp)
set_option maxHeartbeats 2000000 in
theorem law_fn (key : Int) (h : DHead) (used top : Int) (b : List UInt8) (hw : wfHead h) (hu : I64 used) (ht : I64 top) (hb : b.length * 1 ≤ 140737488351232) : Fn Try.prog 11 [.lit (.int .u64 key), .agg (encHead h), .lit (.int .i64 used), .lit (.int .i64 top), .ro (b.map encB)] (.lit (.bool true)) := by
  have h1 := unpack_fn key h used top b hw ht hb
  have h2 := unpacked_fn key h used top b hw ht hu hb
  obtain ⟨s1, s2⟩ := unpR_small key h used top b
  have h3 := sameFrames_fn (unpR key h used top b).2.1 s1 s2
  clear s1 s2
  generalize unpR key h used top b = x at *
  obtain ⟨n, l, e⟩ := x
  unfold encUn at h1 h2
  dsimp only at *
  refine fn_of_run (by kernel_rfl) Try.func11 rfl (by kernel_rfl) ?_
  (repeat' first | (refine s_call (h1) (h := ?_)) | (refine p_call (h1) (h := ?_)) | (refine s_call (h2) (h := ?_)) | (refine p_call (h2) (h := ?_)) | (refine s_call (h3) (h := ?_)) | (refine p_call (h3) (h := ?_)) | (refine go_ ?_; ((repeat' first | exact True.intro | refine Two.mk ?_ ?_); all_goals intros)) | fail "")
  all_goals first
    | exact ends_ (hr := rfl)
    | (exfalso; simp at *; done)
    | skip

theorem walk (W : World) (v0 : Value) (v1 : Value) (v2 : Value) (v3 : Value) (v4 : Value) (h0 : ArgIs Try.prog W 63 v0) (h1 : ArgIs Try.prog W 75 v1) (h2 : ArgIs Try.prog W 3 v2) (h3 : ArgIs Try.prog W 3 v3) (h4 : ArgIs Try.prog W 25 v4) :
    Calls Try.prog 11 #[v0, v1, v2, v3, v4] W fun e W' => e = .returned (.bool true) ∧ Below W.heap.size W W' := by
  obtain ⟨x0, rfl, w0⟩ := h0.int_ Try.underlying63
  replace w0 := u64_of_wf w0
  obtain ⟨c1, rfl, g1⟩ := h1.struct_ Try.underlying75
  obtain ⟨x1, r1, w1⟩ := rHead_of_cells _ g1
  obtain ⟨x2, rfl, w2⟩ := h2.int_ Try.underlying3
  replace w2 := i64_of_wf w2
  obtain ⟨x3, rfl, w3⟩ := h3.int_ Try.underlying3
  replace w3 := i64_of_wf w3
  obtain ⟨a4, n4, b4, rfl, g4⟩ := h4.slice_ Try.underlying25
  obtain ⟨x4, r4, w4, u4⟩ := rd_of_slice (enc := encB) (wf := fun _ => True) (size := 1) (bytes := 1) Try.underlying25 (by kernel_rfl) (by kernel_rfl) (by decide) (fun es h => rdB_of_cells Try.underlying5 es h) g4
  exact law_of_fn (law_fn x0 x1 x2 x3 x4 w1 w2 w3 w4) (.cons (argv_lit rfl) (.cons (argv_agg r1) (.cons (argv_lit rfl) (.cons (argv_lit rfl) (.cons (argv_ro r4) (.nil))))))

set_option maxRecDepth 100000 in
theorem lifted (os : Os) (started : os.Started) (H : Type) (enc : TypeId × Value → H) :
    ReturnsInHanded {} Try.checked os 11 .any (Rows.gateUnpacksSpec.pre6 enc Try.prog Try.f11 Rows.gateUnpacksRow.domain false) (Rows.gateUnpacksSpec.post enc Try.prog Try.f11 false true false false) :=
  law_lifted (C := Try.checked) (s := Rows.gateUnpacksSpec) (by kernel_rfl) started (by kernel_rfl) Try.func11
    (ChangeSpec.witness6 (enc := enc) (C := Try.checked) false ⟨#[], #[.int .u64 0, .agg #[.int .i64 0, .int .i64 0, .int .i64 0, .slice none 0 0, .int .i64 0, .int .i64 0], .int .i64 0, .int .i64 0, .slice none 0 0], []⟩ 8 (by kernel_rfl) (by kernel_rfl) (by kernel_rfl) (by kernel_rfl))
    (by kernel_rfl) rfl (fun ds hd => by
      match ds, hd with
      | [_, _, _, _, _], _ => rfl) rfl Try.underlying4 (by kernel_rfl)
    (fun W args h => by
      rw [Try.params11] at h
      obtain ⟨v0, l0, e0, h0, r0⟩ := h
      obtain ⟨v1, l1, e1, h1, r1⟩ := r0
      obtain ⟨v2, l2, e2, h2, r2⟩ := r1
      obtain ⟨v3, l3, e3, h3, r3⟩ := r2
      obtain ⟨v4, l4, e4, h4, r4⟩ := r3
      have r4' : l4 = [] := r4
      obtain rfl : args = #[v0, v1, v2, v3, v4] := by
        apply Array.toList_inj.1
        rw [e0, e1, e2, e3, e4, r4']
      exact walk W v0 v1 v2 v3 v4 h0 h1 h2 h3 h4)

theorem over : Rows.gateUnpacksRow.holds Try.pinned (OpenSpec.ofChange Rows.gateUnpacksSpec) :=
  OpenClaim.holds_of_wide 11 Try.f11 rfl rfl rfl rfl rfl rfl rfl ⟨rfl, rfl, rfl, rfl, rfl⟩ rfl rfl rfl rfl rfl (by kernel_rfl) Try.func11 (by kernel_rfl)
    (of_decide_eq_true (by kernel_rfl)) (by unfold Func.isWrapper; first | (rw [if_pos (by decide +kernel)]; kernel_rfl) | (rw [if_neg (by decide +kernel)]; exact ⟨rfl, rfl⟩))
    (fun os started H enc _ => lifted os started H enc)

theorem proved : Rows.GateUnpacksSaid := over
#print axioms proved

end Go.Proofs.Ythpophgcmgdpjaa.gateUnpacks
