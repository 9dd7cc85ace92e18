/-
  lock.Seal and lock.Open, and the reference's stream, tagOf, Locked and Unlocked: one answer each. No condition.
-/
import Derived.Test.YtfdomanbdfekhaaGA
import Derived.Test.YtfdomanbdfekhaaLock2
import Derived.Test.YtfdomanbdfekhaaGC
set_option linter.unusedVariables false
set_option linter.unusedSimpArgs false
set_option linter.unusedVariables false
namespace Go.Proofs.Ytfdomanbdfekhaa
set_option maxRecDepth 100000
attribute [local irreducible] Run RunL QStep GStep Fn Less PL FnM

def encQ (p : List UInt8) : List V := [.lit (.string (strB p))]
/-- P6.4: the text, and the refusal -/
noncomputable def openB (key n : Int) (h s : List UInt8) : List UInt8 × Int :=
  if s.length < 8 then ([], 4) else if tagB key n [h, turnB key n (s.take (s.length - 8))] = s.drop (s.length - 8) then (turnB key n (s.take (s.length - 8)), 0) else ([], 10)
end Go.Proofs.Ytfdomanbdfekhaa
