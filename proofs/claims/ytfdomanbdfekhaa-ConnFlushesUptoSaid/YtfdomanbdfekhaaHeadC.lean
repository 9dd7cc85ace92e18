/-
  head.Check and the reference's HeadFault: one answer. No condition.
-/
import Derived.Test.YtfdomanbdfekhaaGA
import Derived.Test.YtfdomanbdfekhaaGC
set_option linter.unusedVariables false
set_option linter.unusedSimpArgs false
set_option linter.unusedVariables false
namespace Go.Proofs.Ytfdomanbdfekhaa
set_option maxRecDepth 100000
attribute [local irreducible] Run RunL QStep GStep Fn Less PL FnM

/-- P5.1 -/
def hdFlt (h : DHead) : Int :=
  if h.Kind < 0 ∨ 2 < h.Kind then 2 else if 120 < h.Token.length then 1 else if ¬ (0 ≤ h.To ∧ h.To ≤ 255) ∨ ¬ (0 ≤ h.From ∧ h.From ≤ 255) then 6
  else if h.Kind = 1 then (if ¬ h.Size = 0 ∨ ¬ h.Number = 0 then 3 else 0)
  else if h.Size < 1 ∨ 4 < h.Size ∨ h.Number < 0 ∨ ((256 ^ h.Size.toNat : Nat) : Int) ≤ h.Number then 6
  else if h.Kind = 2 ∧ (¬ h.From = 0 ∨ 0 < h.Token.length) then 3 else 0
end Go.Proofs.Ytfdomanbdfekhaa
