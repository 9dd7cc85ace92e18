/-
  head.Encode and the reference's HeadBytes: one answer. No condition.
-/
import Derived.Test.YtfdomanbdfekhaaGA
import Derived.Test.YtfdomanbdfekhaaHeadC
import Derived.Test.YtfdomanbdfekhaaVar2
set_option linter.unusedVariables false
set_option linter.unusedSimpArgs false
set_option linter.unusedVariables false
namespace Go.Proofs.Ytfdomanbdfekhaa
set_option maxRecDepth 100000
attribute [local irreducible] Run RunL QStep GStep Fn Less PL FnM

/-- what stands ahead of the number -/
def hdPre (h : DHead) : List UInt8 :=
  if h.Kind = 2 then [UInt8.ofNat (63 + h.Size.toNat), UInt8.ofNat h.To.toNat]
  else (if h.Kind = 0 then [UInt8.ofNat (191 + h.Size.toNat), UInt8.ofNat h.To.toNat, UInt8.ofNat h.From.toNat] else [UInt8.ofNat 240, UInt8.ofNat h.To.toNat, UInt8.ofNat h.From.toNat]) ++ (varB h.Token.length ++ h.Token)
/-- P5.2 -/
def hdB (h : DHead) : List UInt8 := hdPre h ++ bigB h.Number.toNat h.Size.toNat
end Go.Proofs.Ytfdomanbdfekhaa
