/-
  table.Resize and the reference's: what each answers. No condition.
-/
import Derived.Test.YthpophgcmgdpjaaGo
import Derived.Test.YthpophgcmgdpjaaTabR
import Derived.Test.YthpophgcmgdpjaaSameTab
set_option linter.unusedVariables false
set_option linter.unusedSimpArgs false
set_option linter.unusedVariables false
namespace Go.Proofs.Ythpophgcmgdpjaa
set_option maxRecDepth 100000
set_option maxHeartbeats 2000000
attribute [local irreducible] Run RunL QStep GStep Fn Less PL FnM

def tabZero : DTable := ⟨0, 0, []⟩
/-- P14.4 -/
noncomputable def tabResize (t : DTable) (n : Int) : DTable × Int := if tabFlt t ≠ 0 then (tabZero, tabFlt t) else if n < 0 ∨ 160 < n then (tabZero, 6) else (⟨n, t.Put, fitL n t.Rows⟩, 0)
theorem resize_fn (t : DTable) (n : Int) (hw : wfTable t) : Fn Try.prog 65 [.agg (encTable t), .lit (.int .i64 n)] (.tup [.agg (encTable (tabResize t n).1), .lit (.int .i64 (tabResize t n).2)]) := by
  have h1 := tabCheck_fn t hw
  unfold tabResize
  rcases tabFlt_cases t with ⟨h0, ho⟩ | ⟨h0, ho⟩
  · rw [h0] at h1 ⊢
    rw [if_neg (by omega)]
    by_cases hn : n < 0 ∨ 160 < n
    · rw [if_pos hn]
      refine fn_of_run (by kernel_rfl) Try.func65 rfl (by kernel_rfl) ?_
      (repeat' first | (refine s_call (h1) (h := ?_)) | (refine p_call (h1) (h := ?_)) | (refine go_ ?_; ((repeat' first | exact True.intro | refine Two.mk ?_ ?_); all_goals intros)) | fail "")
      all_goals (exact endwA_)
    · have h2 := fitted_fnm t n hw ho.2.1 (by omega)
      rw [if_neg hn]
      refine fn_of_run (by kernel_rfl) Try.func65 rfl (by kernel_rfl) ?_
      (repeat' first | (refine s_call (h1) (h := ?_)) | (refine p_call (h1) (h := ?_)) | (refine s_callM [] (h2) (h := ?_)) | (refine s_callM0 [] (h2) (h := ?_)) | (refine p_callN (h2) (h := ?_)) | (refine go_ ?_; ((repeat' first | exact True.intro | refine Two.mk ?_ ?_); all_goals intros)) | fail "")
      all_goals (exact endwA_)
  · rw [h0] at h1 ⊢
    rw [if_pos (by omega)]
    refine fn_of_run (by kernel_rfl) Try.func65 rfl (by kernel_rfl) ?_
    (repeat' first | (refine s_call (h1) (h := ?_)) | (refine p_call (h1) (h := ?_)) | (refine go_ ?_; ((repeat' first | exact True.intro | refine Two.mk ?_ ?_); all_goals intros)) | fail "")
    all_goals (exact endwA_)
theorem tabResize_wf (t : DTable) (n : Int) (hw : wfTable t) (hn : I64 n) : wfTable (tabResize t n).1 := by
  have hz : wfTable tabZero := by unfold wfTable tabZero I64; simp
  unfold tabResize
  split
  · exact hz
  · split
    · exact hz
    · exact ⟨hn, hw.2.1, by have := fitL_len n t.Rows; have := hw.2.2.1; dsimp only; omega, fun y hy => hw.2.2.2 y (fitL_mem hy)⟩
end Go.Proofs.Ythpophgcmgdpjaa
