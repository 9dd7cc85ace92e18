/-
  The reference's HeadOf. No condition.
-/
import Derived.Test.YthpophgcmgdpjaaGo
import Derived.Test.YthpophgcmgdpjaaHeadD
set_option linter.unusedVariables false
set_option linter.unusedSimpArgs false
set_option linter.unusedVariables false
namespace Go.Proofs.Ythpophgcmgdpjaa
set_option maxRecDepth 100000
attribute [local irreducible] Run RunL QStep GStep Fn Less PL FnM

theorem hd_num {r : List UInt8} {S : Nat} (h : r.length = S) (hS : S ≤ 4) : numG 0 r < 4294967296 := by
  have hg := numG_lt 0 r
  have hp : (0 + 1) * 256 ^ r.length ≤ 1 * 256 ^ 4 := Nat.mul_le_mul (by omega) (Nat.pow_le_pow_right (by omega) (by omega))
  have h7 : 1 * (256 : Nat) ^ 4 = 4294967296 := by decide
  omega
theorem num_fn (r : List UInt8) (h : r.length ≤ 8) : Fn Try.prog 100 [.lit (.string (strB r))] (.lit (.int .u64 ((numG 0 r : Nat) : Int))) := by
  have := number_fn r (by omega)
  rw [numV_num _ _ rfl h] at this
  exact this
end Go.Proofs.Ythpophgcmgdpjaa
