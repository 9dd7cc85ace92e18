/-
  The laws' sameBytes. No condition.
-/
import Derived.Test.YtfdomanbdfekhaaGo
import Derived.Test.YtfdomanbdfekhaaEnc
import Derived.Test.YtfdomanbdfekhaaProg
set_option linter.unusedVariables false
set_option linter.unusedSimpArgs false
set_option linter.unusedVariables false
namespace Go.Proofs.Ytfdomanbdfekhaa
set_option maxRecDepth 100000
attribute [local irreducible] Run RunL QStep GStep Fn Less PL

theorem sameBytes_fn (l m : List UInt8) : Fn Try.prog 15 [.ro (l.map encB), .ro (m.map encB)] (.lit (.bool (yes (l = m)))) := by
  refine fn_of_run (by kernel_rfl) Try.func15 rfl (by kernel_rfl) ?_
  (repeat' first | (refine go_ ?_; ((repeat' first | exact True.intro | refine Two.mk ?_ ?_); all_goals intros)) | fail "")
  all_goals refine ends_ (hr := ?_)
  · exact yesV (by assumption)
  · exact noV (by assumption)
end Go.Proofs.Ytfdomanbdfekhaa
