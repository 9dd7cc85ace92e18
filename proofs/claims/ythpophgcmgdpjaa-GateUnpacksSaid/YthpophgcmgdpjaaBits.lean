/-
  Bits of numbers, and numbers out of bytes: plain lemmas. No condition.
-/
import Derived.Test.YthpophgcmgdpjaaByt
import Derived.Test.YthpophgcmgdpjaaAbsB
set_option linter.unusedVariables false
set_option linter.unusedSimpArgs false
set_option linter.unusedVariables false
namespace Go.Proofs.Ythpophgcmgdpjaa
set_option maxRecDepth 100000
attribute [local irreducible] Run RunL QStep GStep Fn Less PL FnM

theorem andLow {k : IntKind} (hb : 9 ≤ k.bits ∨ k.bits = 8) (a w : Nat) (ha : a < 256) (hw : w ≤ 8) : (BitVec.ofInt k.bits (a : Int) &&& BitVec.ofInt k.bits ((2 ^ w - 1 : Nat) : Int) : BitVec k.bits).toNat = a % 2 ^ w := by
  have h1 : (256 : Nat) ≤ 2 ^ k.bits := by
    rw [show (256 : Nat) = 2 ^ 8 by decide]
    exact Nat.pow_le_pow_right (by omega) (by omega)
  have h2 : 2 ^ w ≤ 2 ^ 8 := Nat.pow_le_pow_right (by omega) hw
  have h3 : (2 : Nat) ^ 8 = 256 := by decide
  rw [BitVec.toNat_and, BitVec.ofInt_natCast, BitVec.ofInt_natCast, BitVec.toNat_ofNat, BitVec.toNat_ofNat, Nat.mod_eq_of_lt (by omega), Nat.mod_eq_of_lt (by omega), Nat.and_two_pow_sub_one_eq_mod]
theorem andU8 (a w : Nat) (ha : a < 256) (hw : w ≤ 8) : bitsI .and .u8 (a : Int) ((2 ^ w - 1 : Nat) : Int) = ((a % 2 ^ w : Nat) : Int) := by
  have := andLow (k := .u8) (.inr rfl) a w ha hw
  show IntKind.u8.wrap _ = _
  have h2 := Nat.mod_le a (2 ^ w)
  rw [this, IntKind.wrap_u8]
  generalize a % 2 ^ w = x at *
  omega
theorem orLow {k : IntKind} (w a b : Nat) (hb : b < 2 ^ w) (hs : 2 ^ w * a + b < 2 ^ k.bits) : (BitVec.ofInt k.bits ((2 ^ w * a : Nat) : Int) ||| BitVec.ofInt k.bits (b : Int) : BitVec k.bits).toNat = 2 ^ w * a + b := by
  rw [BitVec.toNat_or, BitVec.ofInt_natCast, BitVec.ofInt_natCast, BitVec.toNat_ofNat, BitVec.toNat_ofNat, Nat.mod_eq_of_lt (by omega), Nat.mod_eq_of_lt (by omega), ← Nat.two_pow_add_eq_or_of_lt hb]
theorem or64b (a b : Nat) (hb : b < 256) (ha : a < 18014398509481984) : bitsI .or .i64 ((a * 256 : Nat) : Int) (b : Int) = ((a * 256 + b : Nat) : Int) := by
  have := orLow (k := .i64) 8 a b (by omega) (by show 2 ^ 8 * a + b < 2 ^ 64; omega)
  unfold bitsI
  dsimp only
  rw [show a * 256 = 2 ^ 8 * a by omega, this, IntKind.wrap_i64]
  omega
theorem orU8 (w f n : Nat) (hf : f % 2 ^ w = 0) (hn : n < 2 ^ w) (hs : f + n < 256) : bitsI .or .u8 (f : Int) (n : Int) = ((f + n : Nat) : Int) := by
  have hd : 2 ^ w * (f / 2 ^ w) = f := by have := Nat.div_add_mod f (2 ^ w); omega
  have := orLow (k := .u8) w (f / 2 ^ w) n hn (by rw [hd]; show f + n < 2 ^ 8; omega)
  rw [hd] at this
  show IntKind.u8.wrap _ = _
  rw [this, IntKind.wrap_u8]
  omega
/-- bytes behind a number -/
def numG (a : Nat) (l : List UInt8) : Nat := l.foldl (fun a c => a * 256 + c.toNat) a
theorem numG_snoc (a : Nat) (l : List UInt8) (c : UInt8) : numG a (l ++ [c]) = numG a l * 256 + c.toNat := by unfold numG; rw [List.foldl_append]; rfl
theorem numG_cons (a : Nat) (l : List UInt8) (c : UInt8) : numG a (c :: l) = numG (a * 256 + c.toNat) l := rfl
theorem numG_num (l : List UInt8) : numG 0 l = numB l := rfl
theorem numG_add : ∀ (l : List UInt8) (a : Nat), numG a l = a * 256 ^ l.length + numB l
  | [], a => by simp [numG, numB]
  | c :: l, a => by
    rw [numG_cons, numG_add l, show numB (c :: l) = numG (0 * 256 + c.toNat) l from rfl, numG_add l, List.length_cons, Nat.pow_succ]
    simp only [Nat.zero_mul, Nat.zero_add, Nat.add_mul, Nat.add_assoc]
    rw [Nat.mul_assoc, Nat.mul_comm 256]
theorem numG_lt (a : Nat) (l : List UInt8) : numG a l < (a + 1) * 256 ^ l.length := by
  rw [numG_add, Nat.add_mul]
  have := numB_lt l.length l rfl
  omega
theorem shl8 (n : Nat) (h : n < 18014398509481984) : IntKind.i64.wrap ((n : Int) * 2 ^ min (8 : Int).toNat IntKind.i64.bits) = ((n * 256 : Nat) : Int) := by
  rw [show (2 : Int) ^ min (8 : Int).toNat IntKind.i64.bits = 256 from rfl, IntKind.wrap_i64]
  omega
theorem andNot3 : ∀ c : Fin 256, bitsI .andNot .u8 ((c.val : Nat) : Int) 3 = ((c.val - c.val % 4 : Nat) : Int) := by decide
end Go.Proofs.Ythpophgcmgdpjaa
