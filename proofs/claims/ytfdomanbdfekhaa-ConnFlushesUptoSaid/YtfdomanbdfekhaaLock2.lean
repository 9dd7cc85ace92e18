/-
  lock.turned and lock.tag: one answer each. No condition.
-/
import Derived.Test.YtfdomanbdfekhaaGA
import Derived.Test.YtfdomanbdfekhaaGC
import Derived.Test.YtfdomanbdfekhaaProg
set_option linter.unusedVariables false
set_option linter.unusedSimpArgs false
set_option linter.unusedVariables false
namespace Go.Proofs.Ytfdomanbdfekhaa
set_option maxRecDepth 100000
attribute [local irreducible] Run RunL QStep GStep Fn Less PL FnM

def encP (p : List UInt8) : List V := [.ro (p.map encB)]
end Go.Proofs.Ytfdomanbdfekhaa
