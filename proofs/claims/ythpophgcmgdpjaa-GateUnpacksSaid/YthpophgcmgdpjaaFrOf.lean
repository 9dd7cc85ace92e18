/-
  The reference's FrameOf: what it answers. No condition.
-/
import Derived.Test.YthpophgcmgdpjaaFrOfA
import Derived.Test.YthpophgcmgdpjaaFrOfB
set_option linter.unusedSimpArgs false
set_option linter.unusedVariables false
namespace Go.Proofs.Ythpophgcmgdpjaa
theorem frameOf_fn (l : List UInt8) (hl : l.length ≤ 1000000000000000) : Fn Try.prog 164 [.lit (.string (strB l))] (encFr (frD l)) := by
  by_cases hn : (numR l 0).1 = 2
  · exact frameOf_fnA l hn hl
  · exact frameOf_fnB l hn hl
end Go.Proofs.Ythpophgcmgdpjaa
