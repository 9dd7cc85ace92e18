/-
  The reference's upTo. No condition.
-/
import Derived.Test.YtfdomanbdfekhaaGo
import Derived.Test.YtfdomanbdfekhaaEnc
import Derived.Test.YtfdomanbdfekhaaProg
set_option linter.unusedVariables false
set_option linter.unusedSimpArgs false
set_option linter.unusedVariables false
namespace Go.Proofs.Ytfdomanbdfekhaa
set_option maxRecDepth 100000
attribute [local irreducible] Run RunL QStep GStep Fn Less PL

theorem upTo_fn (a b : Int) : Fn Try.prog 40 [.lit (.int .i64 a), .lit (.int .i64 b)] (.lit (.bool (decide (0 ≤ a ∧ a ≤ b)))) := by
  refine fn_of_run (by kernel_rfl) Try.func40 rfl (by kernel_rfl) ?_
  (repeat' first | (refine go_ ?_; ((repeat' first | exact True.intro | refine Two.mk ?_ ?_); all_goals intros)) | fail "")
  all_goals refine ends_ (hr := ?_)
  all_goals first
    | rw [decide_eq_true (by omega)]
    | rw [decide_eq_false (by omega)]
end Go.Proofs.Ytfdomanbdfekhaa
