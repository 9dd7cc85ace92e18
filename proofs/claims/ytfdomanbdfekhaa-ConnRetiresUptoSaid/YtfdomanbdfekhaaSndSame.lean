/-
  The laws' sameSender, of a sender and itself.
-/
import Derived.Test.YtfdomanbdfekhaaGo
import Derived.Test.YtfdomanbdfekhaaSndZ
import Derived.Test.YtfdomanbdfekhaaSameB
set_option linter.unusedVariables false
set_option linter.unusedSimpArgs false
set_option linter.unusedVariables false
namespace Go.Proofs.Ytfdomanbdfekhaa
set_option maxRecDepth 100000
attribute [local irreducible] Run RunL QStep GStep Fn Less PL FnM

set_option maxHeartbeats 2000000 in
theorem sameSender_refl (a : DSender) (ha : a.Lost.length * 16 ≤ 140737488351232) (hb : a.Acked.length * 16 ≤ 140737488351232) : Fn Try.prog 57 [.agg (encSender a), .agg (encSender a)] (.lit (.bool true)) := by
  have h1 := sameRanges_fn a.Lost a.Lost (by omega) (by omega)
  have h2 := sameRanges_fn a.Acked a.Acked (by omega) (by omega)
  have h3 := sameBytes_fn a.Data a.Data
  rw [yes_of rfl] at h1 h2 h3
  obtain ⟨data, f0, next, mx, lost, acked, en, ov⟩ := a
  dsimp only [encSender] at *
  cases f0 <;> cases en <;> cases ov
  all_goals refine fn_of_run (by kernel_rfl) Try.func57 rfl (by kernel_rfl) ?_
  all_goals (repeat' first | (refine s_call (h1) (h := ?_)) | (refine p_call (h1) (h := ?_)) | (refine s_call (h2) (h := ?_)) | (refine p_call (h2) (h := ?_)) | (refine s_call (h3) (h := ?_)) | (refine p_call (h3) (h := ?_)) | (refine go_ ?_; ((repeat' first | exact True.intro | refine Two.mk ?_ ?_); all_goals intros)) | fail "")
  all_goals first
    | exact ends_ (hr := rfl)
    | skip
end Go.Proofs.Ytfdomanbdfekhaa
