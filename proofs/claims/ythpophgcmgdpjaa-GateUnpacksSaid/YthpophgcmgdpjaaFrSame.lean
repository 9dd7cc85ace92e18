/-
  The laws' sameFrame, of equal frames. No condition.
-/
import Derived.Test.YthpophgcmgdpjaaGo
import Derived.Test.YthpophgcmgdpjaaSameB
import Derived.Test.YthpophgcmgdpjaaRgs
set_option linter.unusedVariables false
set_option linter.unusedSimpArgs false
set_option linter.unusedVariables false
namespace Go.Proofs.Ythpophgcmgdpjaa
set_option maxRecDepth 100000
attribute [local irreducible] Run RunL QStep GStep Fn Less PL FnM

theorem sameFrame_fn (f : DFrame) (hl : f.Ranges.length * 16 ≤ 140737488355328) : Fn Try.prog 113 [.agg (encFrame f), .agg (encFrame f)] (.lit (.bool true)) := by
  have h1 := sameRanges_fn f.Ranges f.Ranges hl hl
  have h2 := sameBytes_fn f.Data f.Data
  rw [yes_of rfl] at h1 h2
  refine fn_of_run (by kernel_rfl) Try.func113 rfl (by kernel_rfl) ?_
  (repeat' first | (refine s_call (h1) (h := ?_)) | (refine p_call (h1) (h := ?_)) | (refine s_call (h2) (h := ?_)) | (refine p_call (h2) (h := ?_)) | (refine go_ ?_; ((repeat' first | exact True.intro | refine Two.mk ?_ ?_); all_goals intros)) | fail "")
  all_goals exact ends_ (hr := rfl)
end Go.Proofs.Ythpophgcmgdpjaa
