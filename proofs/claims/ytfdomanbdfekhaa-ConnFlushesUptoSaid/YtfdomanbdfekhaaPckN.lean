/-
  packno.Cut and the reference's CutNumber: what each answers. No condition.
-/
import Derived.Test.YtfdomanbdfekhaaGA
import Derived.Test.YtfdomanbdfekhaaGC
set_option linter.unusedVariables false
set_option linter.unusedSimpArgs false
set_option linter.unusedVariables false
namespace Go.Proofs.Ytfdomanbdfekhaa
set_option maxRecDepth 100000
attribute [local irreducible] Run RunL QStep GStep Fn Less PL FnM

def cutOk (n d : Int) : Prop := 0 ≤ n ∧ n ≤ 4611686018427387903 ∧ -1 ≤ d ∧ d < n
instance (n d : Int) : Decidable (cutOk n d) := inferInstanceAs (Decidable (_ ∧ _))
def cutK (d : Int) : Nat := if d ≤ 128 then 1 else if d ≤ 32768 then 2 else if d ≤ 8388608 then 3 else if d ≤ 2147483648 then 4 else 0
/-- P2.1 -/
def cutR (n d : Int) : List UInt8 × Int := if ¬ cutOk n d then ([], 6) else if cutK (n - d) = 0 then ([], 6) else (bigB n.toNat (cutK (n - d)), 0)
def encCut (r : List UInt8 × Int) : V := .tup [.ro (r.1.map encB), .lit (.int .i64 r.2)]
end Go.Proofs.Ytfdomanbdfekhaa
