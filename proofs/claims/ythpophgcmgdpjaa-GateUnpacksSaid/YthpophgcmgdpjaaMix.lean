/-
  lock.Mix, and the reference's Mixed. No condition.
-/
import Derived.Test.YthpophgcmgdpjaaGo
import Derived.Test.YthpophgcmgdpjaaMixP
import Derived.Test.YthpophgcmgdpjaaProg
set_option linter.unusedVariables false
set_option linter.unusedSimpArgs false
set_option linter.unusedVariables false
namespace Go.Proofs.Ythpophgcmgdpjaa
set_option maxRecDepth 100000
attribute [local irreducible] Run RunL QStep GStep Fn Less PL FnM

theorem mix_fn (x : Int) : Fn Try.prog 182 [.lit (.int .u64 x)] (.lit (.int .u64 (mixV x))) := by
  refine fn_of_run (by kernel_rfl) Try.func182 rfl (by kernel_rfl) ?_
  (repeat' first | (refine go_ ?_; ((repeat' first | exact True.intro | refine Two.mk ?_ ?_); all_goals intros)) | fail "")
  all_goals exact ends_ (hr := rfl)
theorem mixed_fn (x : Int) : Fn Try.prog 183 [.lit (.int .u64 x)] (.lit (.int .u64 (mixV x))) := by
  refine fn_of_run (by kernel_rfl) Try.func183 rfl (by kernel_rfl) ?_
  (repeat' first | (refine go_ ?_; ((repeat' first | exact True.intro | refine Two.mk ?_ ?_); all_goals intros)) | fail "")
  refine r_for (fun k : Nat => ⟨[(0, .lit (.int .u64 (mxK x k))), (5, .ro [[.lit (.int .u64 1)], [.lit (.int .u64 13787848793156543929)], [.lit (.int .u64 10723151780598845931)]]), (6, .lit (.int .i64 3)), (7, .lit (.int .i64 k))], [], 0, Try.f183.ntmps⟩)
    (fun k => k ≤ 3) (fun k => 3 - k) 0 (by omega) less_to ?_
  intro k hk
  rcases (show k = 0 ∨ k = 1 ∨ k = 2 ∨ k = 3 by omega) with rfl | rfl | rfl | rfl
  · (repeat' first | (refine go_ ?_; ((repeat' first | exact True.intro | refine Two.mk ?_ ?_); all_goals intros)) | fail "")
    all_goals (refine ⟨1, ?_, ?_, ?_⟩; rotate_left 2; (exact lessA_); (focus (omega)); (focus (omega)))
  · (repeat' first | (refine go_ ?_; ((repeat' first | exact True.intro | refine Two.mk ?_ ?_); all_goals intros)) | fail "")
    all_goals (refine ⟨2, ?_, ?_, ?_⟩; rotate_left 2; (exact lessA_); (focus (omega)); (focus (omega)))
  · (repeat' first | (refine go_ ?_; ((repeat' first | exact True.intro | refine Two.mk ?_ ?_); all_goals intros)) | fail "")
    all_goals (refine ⟨3, ?_, ?_, ?_⟩; rotate_left 2; (exact lessA_); (focus (omega)); (focus (omega)))
  · (repeat' first | (refine go_ ?_; ((repeat' first | exact True.intro | refine Two.mk ?_ ?_); all_goals intros)) | fail "")
    all_goals exact ends_ (hr := rfl)
end Go.Proofs.Ythpophgcmgdpjaa
