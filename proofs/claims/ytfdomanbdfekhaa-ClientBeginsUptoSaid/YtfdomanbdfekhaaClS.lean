/-
  The laws' sameClient, of a client and itself. No condition.
-/
import Derived.Test.YtfdomanbdfekhaaGA
import Derived.Test.YtfdomanbdfekhaaCnS
set_option linter.unusedVariables false
set_option linter.unusedSimpArgs false
set_option linter.unusedVariables false
namespace Go.Proofs.Ytfdomanbdfekhaa
set_option maxRecDepth 100000
attribute [local irreducible] Run RunL QStep GStep Fn Less PL FnM

set_option maxHeartbeats 4000000 in
theorem sameClient_refl (c : DClient) (hw : wfClient c) : Fn Try.prog 36 [.agg (encClient c), .agg (encClient c)] (.lit (.bool true)) := by
  have h1 := sameConn_refl c.Conn hw.2.2.2.2.2.2
  have h2 := sameBytes_fn c.Token c.Token
  rw [yes_of rfl] at h2
  clear hw
  refine fn_of_run (by kernel_rfl) Try.func36 rfl (by kernel_rfl) ?_
  (repeat' first | (refine s_call (h1) (h := ?_)) | (refine p_call (h1) (h := ?_)) | (refine s_call (h2) (h := ?_)) | (refine p_call (h2) (h := ?_)) | (refine go_ ?_; ((repeat' first | exact True.intro | refine Two.mk ?_ ?_); all_goals intros)) | fail "")
  all_goals first
    | (exact endwA_)
    | skip
end Go.Proofs.Ytfdomanbdfekhaa
