/-
  flow.Check and the reference's FlowFault: what each answers. No condition.
-/
import Derived.Test.YtfdomanbdfekhaaGo
import Derived.Test.YtfdomanbdfekhaaUpTo
set_option linter.unusedVariables false
set_option linter.unusedSimpArgs false
set_option linter.unusedVariables false
namespace Go.Proofs.Ytfdomanbdfekhaa
set_option maxRecDepth 100000
attribute [local irreducible] Run RunL QStep GStep Fn Less PL FnM

/-- P9.1 -/
def flwOk (f : DFlow) : Prop := 0 ≤ f.Used ∧ f.Used ≤ f.Max ∧ f.Max ≤ 4611686018427387903
instance (f : DFlow) : Decidable (flwOk f) := inferInstanceAs (Decidable (_ ∧ _ ∧ _))
def flwFlt (f : DFlow) : Int := if flwOk f then 0 else 9
theorem flwFlt_t {f : DFlow} (h : flwOk f) : flwFlt f = 0 := if_pos h
theorem flwFlt_f {f : DFlow} (h : ¬ flwOk f) : flwFlt f = 9 := if_neg h
set_option maxHeartbeats 1000000 in
theorem flwCheck_fn (f : DFlow) : Fn Try.prog 94 [.agg (encFlow f)] (.lit (.int .i64 (flwFlt f))) := by
  refine fn_of_run (by kernel_rfl) Try.func94 rfl (by kernel_rfl) ?_
  (repeat' first | (refine go_ ?_; ((repeat' first | exact True.intro | refine Two.mk ?_ ?_); all_goals intros)) | fail "")
  all_goals refine ends_ (hr := ?_)
  all_goals first
    | rw [flwFlt_t (by unfold flwOk; omega)]
    | rw [flwFlt_f (by unfold flwOk; omega)]
set_option maxHeartbeats 1000000 in
theorem flwFault_fn (f : DFlow) : Fn Try.prog 99 [.agg (encFlow f)] (.lit (.int .i64 (flwFlt f))) := by
  refine fn_of_run (by kernel_rfl) Try.func99 rfl (by kernel_rfl) ?_
  (repeat' first | (refine s_dec (upTo_fn _ _) (ht := ?_) (hff := ?_) <;> intro _ <;> try (exfalso; omega)) | (refine p_dec (upTo_fn _ _) (ht := ?_) (hff := ?_) <;> intro _ <;> try (exfalso; omega)) | (refine go_ ?_; ((repeat' first | exact True.intro | refine Two.mk ?_ ?_); all_goals intros)) | fail "")
  all_goals refine ends_ (hr := ?_)
  all_goals first
    | rw [flwFlt_t (by unfold flwOk; omega)]
    | rw [flwFlt_f (by unfold flwOk; omega)]
end Go.Proofs.Ytfdomanbdfekhaa
