/-
  The words of a lock: plain lemmas. No condition.
-/
import Derived.Test.YthpophgcmgdpjaaSeq
set_option linter.unusedVariables false
set_option linter.unusedSimpArgs false
set_option linter.unusedVariables false
namespace Go.Proofs.Ythpophgcmgdpjaa
set_option maxRecDepth 100000
attribute [local irreducible] Run RunL QStep GStep Fn Less PL FnM

def mxS (x : Int) (s : Nat) : Int := bitsI .xor .u64 x (x.fdiv (2 ^ s))
def mx1 (x : Int) : Int := IntKind.u64.wrap (x + 11400714819323198485)
def mx2 (x : Int) : Int := IntKind.u64.wrap (mxS x 30 * 13787848793156543929)
def mx3 (x : Int) : Int := IntKind.u64.wrap (mxS x 27 * 10723151780598845931)
/-- P6.1 -/
def mixV (x : Int) : Int := mxS (mx3 (mx2 (mx1 x))) 31
theorem u64_range (x : Int) : 0 ≤ IntKind.u64.wrap x ∧ IntKind.u64.wrap x < 18446744073709551616 := by rw [IntKind.wrap_u64]; omega
theorem bitsI_range (op : BinOp) (x y : Int) : 0 ≤ bitsI op .u64 x y ∧ bitsI op .u64 x y < 18446744073709551616 := by unfold bitsI; exact u64_range _
theorem mixV_range (x : Int) : 0 ≤ mixV x ∧ mixV x < 18446744073709551616 := by unfold mixV; generalize mx3 (mx2 (mx1 x)) = y; unfold mxS; generalize y.fdiv (2 ^ 31) = z; exact bitsI_range _ _ _
/-- P6.2 -/
def keyV (s n : Int) : Int := mixV (bitsI .xor .u64 (mixV s) (IntKind.u64.wrap n))
theorem bitsI_xor_comm (a b : Int) : bitsI .xor .u64 a b = bitsI .xor .u64 b a := by
  unfold bitsI
  dsimp only
  rw [BitVec.xor_comm]

def mxK (x : Int) : Nat → Int
  | 0 => x
  | 1 => mx1 x
  | 2 => mx2 (mx1 x)
  | _ => mx3 (mx2 (mx1 x))

end Go.Proofs.Ythpophgcmgdpjaa
