/-
  PrefixEncodes: prefix.Encode and prefix.Text answer what P13.1 and P13.3 say, at every argument. No condition.
-/
import Derived.Test.YtfdomanbdfekhaaGA
import Derived.Test.YtfdomanbdfekhaaPrT
import Derived.Test.YtfdomanbdfekhaaGC
import Derived.Test.YtfdomanbdfekhaaGB
set_option linter.unusedSimpArgs false
set_option linter.unusedVariables false
namespace Go.Proofs.Ytfdomanbdfekhaa.prefixEncodes
open Go.ChangeShapes Go.WideShapes Go.ChangeAt Go.RowKit
set_option maxRecDepth 100000
attribute [local irreducible] Run RunL QStep GStep Fn Less PL FnM

theorem u8_of_wf {x : Int} (h : (Lit.int .u8 x).wf = true) : 0 ≤ x ∧ x ≤ 255 := bounds_u8 h
set_option maxHeartbeats 4000000 in
theorem law_fn (x : Int) (w n : Int) (s : List UInt8) (hx : 0 ≤ x ∧ x ≤ 255) (hw : I64 w) : Fn Try.prog 3 [.lit (.int .u8 x), .lit (.int .i64 w), .lit (.int .i64 n), .lit (.string (strB s))] (.lit (.bool true)) := by
  obtain ⟨f, rfl⟩ := Int.eq_ofNat_of_zero_le hx.1
  have hf : f < 256 := by omega
  have h1 := prefixEncode_fn f w n hf
  have h2 := prefixText_fn f w s hf
  have h3 := prefixBytes_fn f w n hf hw
  have h4 := textBytes_fn f w s hf hw
  have h5 := sameBytes_fn (preR f w n).1 (preR f w n).1
  have h6 := sameBytes_fn (txtR f w s).1 (txtR f w s).1
  rw [yes_of rfl] at h5 h6
  unfold encPr at *
  generalize preR f w n = p at *
  generalize txtR f w s = q at *
  obtain ⟨p, e⟩ := p
  obtain ⟨q, i⟩ := q
  dsimp only at *
  refine fn_of_run (by kernel_rfl) Try.func3 rfl (by kernel_rfl) ?_
  (repeat' first | (refine s_call (h1) (h := ?_)) | (refine p_call (h1) (h := ?_)) | (refine s_call (h2) (h := ?_)) | (refine p_call (h2) (h := ?_)) | (refine s_call (h3) (h := ?_)) | (refine p_call (h3) (h := ?_)) | (refine s_call (h4) (h := ?_)) | (refine p_call (h4) (h := ?_)) | (refine s_call (h5) (h := ?_)) | (refine p_call (h5) (h := ?_)) | (refine s_call (h6) (h := ?_)) | (refine p_call (h6) (h := ?_)) | (refine go_ ?_; ((repeat' first | exact True.intro | refine Two.mk ?_ ?_); all_goals intros)) | fail "")
  all_goals first
    | exact ends_ (hr := rfl)
    | (exfalso; simp at *; done)
    | skip

theorem walk (W : World) (v0 : Value) (v1 : Value) (v2 : Value) (v3 : Value) (h0 : ArgIs Try.prog W 5 v0) (h1 : ArgIs Try.prog W 3 v1) (h2 : ArgIs Try.prog W 3 v2) (h3 : ArgIs Try.prog W 9 v3) :
    Calls Try.prog 3 #[v0, v1, v2, v3] W fun e W' => e = .returned (.bool true) ∧ Below W.heap.size W W' := by
  obtain ⟨x0, rfl, w0⟩ := h0.int_ Try.underlying5
  replace w0 := u8_of_wf w0
  obtain ⟨x1, rfl, w1⟩ := h1.int_ Try.underlying3
  replace w1 := i64_of_wf w1
  obtain ⟨x2, rfl, w2⟩ := h2.int_ Try.underlying3
  replace w2 := i64_of_wf w2
  obtain ⟨y3, rfl, w3⟩ := h3.string_ Try.underlying9
  obtain ⟨x3, rfl⟩ : ∃ l, y3 = strB l := ⟨_, (strB_self _).symm⟩
  rw [strB_size] at w3; unfold reachBytes at w3
  exact law_of_fn (law_fn x0 x1 x2 x3 w0 w1) (.cons (argv_lit rfl) (.cons (argv_lit rfl) (.cons (argv_lit rfl) (.cons (argv_lit rfl) (.nil)))))

set_option maxRecDepth 100000 in
theorem lifted (os : Os) (started : os.Started) (H : Type) (enc : TypeId × Value → H) :
    ReturnsInHanded {} Try.checked os 3 .any (Rows.prefixEncodesSpec.pre6 enc Try.prog Try.f3 Rows.prefixEncodesRow.domain false) (Rows.prefixEncodesSpec.post enc Try.prog Try.f3 false true false false) :=
  law_lifted (C := Try.checked) (s := Rows.prefixEncodesSpec) (by kernel_rfl) started (by kernel_rfl) Try.func3
    (ChangeSpec.witness6 (enc := enc) (C := Try.checked) false ⟨#[], #[.int .u8 0, .int .i64 0, .int .i64 0, .string ByteArray.empty], []⟩ 8 (by kernel_rfl) (by kernel_rfl) (by kernel_rfl) (by kernel_rfl))
    (by kernel_rfl) rfl (fun ds hd => by
      match ds, hd with
      | [_, _, _, _], _ => rfl) rfl Try.underlying4 (by kernel_rfl)
    (fun W args h => by
      rw [Try.params3] at h
      obtain ⟨v0, l0, e0, h0, r0⟩ := h
      obtain ⟨v1, l1, e1, h1, r1⟩ := r0
      obtain ⟨v2, l2, e2, h2, r2⟩ := r1
      obtain ⟨v3, l3, e3, h3, r3⟩ := r2
      have r3' : l3 = [] := r3
      obtain rfl : args = #[v0, v1, v2, v3] := by
        apply Array.toList_inj.1
        rw [e0, e1, e2, e3, r3']
      exact walk W v0 v1 v2 v3 h0 h1 h2 h3)

theorem over : Rows.prefixEncodesRow.holds Try.pinned (OpenSpec.ofChange Rows.prefixEncodesSpec) :=
  OpenClaim.holds_of_wide 3 Try.f3 rfl rfl rfl rfl rfl rfl rfl ⟨rfl, rfl, rfl, rfl, rfl⟩ rfl rfl rfl rfl rfl (by kernel_rfl) Try.func3 (by kernel_rfl)
    (of_decide_eq_true (by kernel_rfl)) (by unfold Func.isWrapper; first | (rw [if_pos (by decide +kernel)]; kernel_rfl) | (rw [if_neg (by decide +kernel)]; exact ⟨rfl, rfl⟩))
    (fun os started H enc _ => lifted os started H enc)

theorem proved : Rows.PrefixEncodesSaid := over
#print axioms proved

end Go.Proofs.Ytfdomanbdfekhaa.prefixEncodes
