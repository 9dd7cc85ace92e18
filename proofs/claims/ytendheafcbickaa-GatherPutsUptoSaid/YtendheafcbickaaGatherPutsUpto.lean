/-
  GatherPuts: gather.Put answers what P8.3 says, within the bound of the second form.
-/
import Derived.Test.YtendheafcbickaaGA
import Derived.Test.YtendheafcbickaaPut
import Derived.Test.YtendheafcbickaaPutR
import Derived.Test.YtendheafcbickaaPutW
import Derived.Test.YtendheafcbickaaGH
import Derived.Test.YtendheafcbickaaCells
import Derived.Test.YtendheafcbickaaCellsU
set_option linter.unusedSimpArgs false
set_option linter.unusedVariables false
namespace Go.Proofs.Ytendheafcbickaa.gatherPutsUpto
open Go.ChangeShapes Go.WideShapes Go.ChangeAt Go.RowKit
set_option maxRecDepth 100000
attribute [local irreducible] Run RunL QStep GStep Fn Less PL FnM

theorem law_fn (g : DGather) (off : Int) (data : List UInt8) (fin : Bool) (hu : U.wfGather g) (ho : I64 off) (hd : data.length ≤ 1048576) : Fn Try.prog 3 [.agg (encGather g), .lit (.int .i64 off), .ro (data.map encB), .lit (.bool fin)] (.lit (.bool true)) := by
  have hw := U.wf_leGather g hu
  have hs : ∀ p ∈ g.Held, p.Data.length ≤ 16777216 := fun p hp => by have := (hu.2.2.1 p hp).2; omega
  have h1 := put_fn g off data fin hw ho hd hs
  have h2 := gatherPutRef_fn g off data fin hw ho hd hs
  have hwf := putR_wf g off data fin hw ho hd hs
  have h3 := sameGather_fn _ _ hwf hwf
  rw [yes_of rfl] at h3
  clear hwf hs hu hw
  generalize putR g off data fin = r at *
  obtain ⟨r, e⟩ := r
  dsimp only at h1 h2 h3
  refine fn_of_run (by kernel_rfl) Try.func3 rfl (by kernel_rfl) ?_
  (repeat' first | (refine s_call (h1) (h := ?_)) | (refine p_call (h1) (h := ?_)) | (refine s_call (h2) (h := ?_)) | (refine p_call (h2) (h := ?_)) | (refine s_call (h3) (h := ?_)) | (refine p_call (h3) (h := ?_)) | (refine go_ ?_; ((repeat' first | exact True.intro | refine Two.mk ?_ ?_); all_goals intros)) | fail "")
  all_goals first
    | exact ends_ (hr := rfl)
    | (exfalso; simp at *; done)
    | skip

theorem walk (W : World) (v0 : Value) (v1 : Value) (v2 : Value) (v3 : Value) (h0 : U.ArgIs Try.prog W 24 v0) (h1 : U.ArgIs Try.prog W 3 v1) (h2 : U.ArgIs Try.prog W 25 v2) (h3 : U.ArgIs Try.prog W 4 v3) :
    Calls Try.prog 3 #[v0, v1, v2, v3] W fun e W' => e = .returned (.bool true) ∧ Below W.heap.size W W' := by
  obtain ⟨c0, rfl, g0⟩ := h0.struct_ Try.underlying24
  obtain ⟨x0, r0, w0⟩ := U.rGather_of_cells _ g0
  obtain ⟨x1, rfl, w1⟩ := h1.int_ Try.underlying3
  replace w1 := i64_of_wf w1
  obtain ⟨a2, n2, b2, rfl, g2⟩ := h2.slice_ Try.underlying25
  obtain ⟨x2, r2, w2, u2⟩ := U.rd_of_slice (enc := encB) (wf := fun _ => True) (size := 1) (bytes := 1) Try.underlying25 (by kernel_rfl) (by kernel_rfl) (by decide) (fun es h => U.rdB_of_cells Try.underlying5 es h) g2
  obtain ⟨x3, rfl⟩ := h3.bool_ Try.underlying4
  exact law_of_fn (law_fn x0 x1 x2 x3 w0 w1 (by omega)) (.cons (argv_agg r0) (.cons (argv_lit rfl) (.cons (argv_ro r2) (.cons (argv_lit rfl) (.nil)))))

set_option maxRecDepth 100000 in
theorem lifted (os : Os) (started : os.Started) (H : Type) (enc : TypeId × Value → H) (F : Stop.Interp) :
    ReturnsInHanded {} Try.checked os 3 .any ((Rows.OpenSpec.upto Rows.gatherPutsSpec).pre6 enc Try.prog Try.f3 Rows.gatherPutsUptoRow.domain false) (((Rows.OpenSpec.upto Rows.gatherPutsSpec).at F).post enc Try.prog Try.f3 false true false false) :=
  U.law_lifted (C := Try.checked) (s := Rows.gatherPutsSpec) (by kernel_rfl) started (by kernel_rfl) Try.func3
    (OpenSpec.witness (enc := enc) (C := Try.checked) (s := Rows.OpenSpec.upto Rows.gatherPutsSpec) (k := Rows.uptoSmall) rfl false ⟨#[], #[.agg #[.int .i64 0, .slice none 0 0, .int .i64 0, .int .i64 0], .int .i64 0, .slice none 0 0, .bool false], []⟩ 8 (by kernel_rfl) (by kernel_rfl) (by kernel_rfl)
      (x := ([.agg [.lit (.int .i64 0), .nil, .lit (.int .i64 0), .lit (.int .i64 0)], .lit (.int .i64 0), .nil, .lit (.bool false)], [], [])) (by kernel_rfl) rfl (by kernel_rfl))
    (by kernel_rfl) rfl (fun ds hd => by
      match ds, hd with
      | [_, _, _, _], _ => rfl) rfl Try.underlying4 (by kernel_rfl)
    (fun W args h => by
      rw [Try.params3] at h
      obtain ⟨v0, l0, e0, h0, r0⟩ := h
      obtain ⟨v1, l1, e1, h1, r1⟩ := r0
      obtain ⟨v2, l2, e2, h2, r2⟩ := r1
      obtain ⟨v3, l3, e3, h3, r3⟩ := r2
      have r3' : l3 = [] := r3
      obtain rfl : args = #[v0, v1, v2, v3] := by
        apply Array.toList_inj.1
        rw [e0, e1, e2, e3, r3']
      exact walk W v0 v1 v2 v3 h0 h1 h2 h3)

theorem over : Rows.gatherPutsUptoRow.holds Try.pinned (Rows.OpenSpec.upto Rows.gatherPutsSpec) :=
  OpenClaim.holds_of_cond 3 Try.f3 rfl rfl rfl rfl rfl rfl rfl ⟨rfl, rfl, rfl, rfl, rfl⟩ rfl rfl rfl rfl rfl (by kernel_rfl) Try.func3 (by kernel_rfl)
    (of_decide_eq_true (by kernel_rfl)) (by unfold Func.isWrapper; first | (rw [if_pos (by decide +kernel)]; kernel_rfl) | (rw [if_neg (by decide +kernel)]; exact ⟨rfl, rfl⟩))
    (fun os started H enc _ F => lifted os started H enc F)

theorem proved : Rows.GatherPutsUptoSaid := over
#print axioms proved

end Go.Proofs.Ytendheafcbickaa.gatherPutsUpto
