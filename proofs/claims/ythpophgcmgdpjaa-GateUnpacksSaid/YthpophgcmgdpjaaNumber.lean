/-
  The reference's number. No condition.
-/
import Derived.Test.YthpophgcmgdpjaaGo
import Derived.Test.YthpophgcmgdpjaaByt
import Derived.Test.YthpophgcmgdpjaaProg
set_option linter.unusedVariables false
set_option linter.unusedSimpArgs false
set_option linter.unusedVariables false
namespace Go.Proofs.Ythpophgcmgdpjaa
set_option maxRecDepth 100000
attribute [local irreducible] Run RunL QStep GStep Fn Less PL FnM

theorem number_fn (l : List UInt8) (hl : l.length ≤ 1000000000000000) : Fn Try.prog 100 [.lit (.string (strB l))] (.lit (.int .u64 (numV l))) := by
  refine fn_of_run (by kernel_rfl) Try.func100 rfl (by kernel_rfl) ?_
  (repeat' first | (refine go_ ?_; ((repeat' first | exact True.intro | refine Two.mk ?_ ?_); all_goals intros)) | fail "")
  refine r_for (fun k : Nat => ⟨[(0, .lit (.string (strB l))), (3, .lit (.int .u64 (numV (l.take k)))), (4, .lit (.int .i64 k))], [], 0, Try.f100.ntmps⟩)
    (fun k => k ≤ l.length) (fun k => l.length - k) 0 (by omega) less_to ?_
  intro k hk
  by_cases hkn : k < l.length
  · have e : numV (l.take (k + 1)) = IntKind.u64.wrap (IntKind.u64.wrap (numV (l.take k) * 256) + (l.getD k default).toNat) := by rw [take_snoc hkn, numV_snoc]
    have hc := (l.getD k default).toNat_lt
    (repeat' first | (refine go_ ?_; ((repeat' first | exact True.intro | refine Two.mk ?_ ?_); all_goals intros)) | fail "")
    all_goals (refine ⟨k + 1, ?_, ?_, ?_⟩; rotate_left 2; (exact lessA_); (focus (omega)); (focus (omega)))
  · (repeat' first | (refine go_ ?_; ((repeat' first | exact True.intro | refine Two.mk ?_ ?_); all_goals intros)) | fail "")
    all_goals (refine ends_ (hr := ?_); rw [List.take_of_length_le (by omega)])
end Go.Proofs.Ythpophgcmgdpjaa
