/-
  SEVERAL TEXTS IN ONE: each with its own comment.
-/
import Derived.Test.YtfdomanbdfekhaaGB
import Derived.Test.YtfdomanbdfekhaaAbsB
import Derived.Test.YtfdomanbdfekhaaGA
import Derived.Test.YtfdomanbdfekhaaProg
/-
  Plain lemmas on lists.
-/
set_option linter.unusedVariables false
set_option linter.unusedSimpArgs false
set_option linter.unusedVariables false
namespace Go.Proofs.Ytfdomanbdfekhaa
theorem take_snoc {α : Type} [Inhabited α] {l : List α} {k : Nat} (h : k < l.length) : l.take (k + 1) = l.take k ++ [l.getD k default] := by
  rw [List.take_succ_eq_append_getElem h, List.getD_eq_getElem?_getD, List.getElem?_eq_getElem h]; rfl
/-- two lists gone through together, as long as all agrees -/
def Along {α : Type} (l m : List α) (same : Prop) (k : Nat) (ok : Bool) : Prop := k ≤ l.length ∧ (ok = true → l.length = m.length ∧ l.take k = m.take k) ∧ (ok = false → ¬ same)
def AllTo (Q : Nat → Prop) (k : Nat) : Prop := ∀ i, i < k → Q i
end Go.Proofs.Ytfdomanbdfekhaa

/-
  Numbers in bytes: plain lemmas. No condition.
-/
set_option linter.unusedVariables false
set_option linter.unusedSimpArgs false
set_option linter.unusedVariables false
namespace Go.Proofs.Ytfdomanbdfekhaa
set_option maxRecDepth 100000
attribute [local irreducible] Run RunL QStep GStep Fn Less PL FnM

/-- n in k bytes, the highest one first -/
def bigB (n : Nat) : Nat → List UInt8
  | 0 => []
  | k + 1 => UInt8.ofNat (n / 256 ^ k) :: bigB n k
theorem bigB_length (n : Nat) : ∀ k, (bigB n k).length = k
  | 0 => rfl
  | k + 1 => by simp [bigB, bigB_length n k]
theorem u8_val (m : Nat) : ((UInt8.ofNat m).toNat : Int) = IntKind.u8.wrap (m : Int) := by
  rw [IntKind.wrap_u8]
  simp
theorem encB_ofNat (m : Nat) : encB (UInt8.ofNat m) = [.lit (.int .u8 (IntKind.u8.wrap (m : Int)))] := by unfold encB; rw [u8_val]
/-- what is filled so far -/
def fillB (l : List UInt8) (n k : Nat) : List (List V) := (l.take k).map encB ++ List.replicate (n - k) [.lit (.int .u8 0)]
theorem fdiv_two_pow (n k : Nat) : (n : Int).fdiv (2 ^ k) = ((n / 2 ^ k : Nat) : Int) := by
  rw [Int.fdiv_eq_ediv_of_nonneg _ (by exact_mod_cast Nat.zero_le _)]
  push_cast
  rfl

theorem u8_big (n k : Nat) : some [[V.lit (.int .u8 (IntKind.u8.wrap ((n / 256 ^ k : Nat) : Int)))]] = some ([UInt8.ofNat (n / 256 ^ k)].map encB) := by
  rw [List.map_cons, List.map_nil, encB_ofNat]
theorem shr8 (n k : Nat) : ((n / 256 ^ k : Nat) : Int).fdiv (2 ^ min (8 : Int).toNat IntKind.u64.bits) = ((n / 256 ^ (k + 1) : Nat) : Int) := by
  rw [show min (8 : Int).toNat IntKind.u64.bits = 8 from rfl, fdiv_two_pow, Nat.div_div_eq_div_mul, show (256 : Nat) ^ (k + 1) = 256 ^ k * 2 ^ 8 from by rw [Nat.pow_succ]]
/-- as the machine adds -/
def numV (l : List UInt8) : Int := l.foldl (fun a c => IntKind.u64.wrap (IntKind.u64.wrap (a * 256) + c.toNat)) 0
/-- a number in bytes -/
def numB (l : List UInt8) : Nat := l.foldl (fun a c => a * 256 + c.toNat) 0
end Go.Proofs.Ytfdomanbdfekhaa

/-
  Bits of numbers, and numbers out of bytes: plain lemmas. No condition.
-/
set_option linter.unusedVariables false
set_option linter.unusedSimpArgs false
set_option linter.unusedVariables false
namespace Go.Proofs.Ytfdomanbdfekhaa
set_option maxRecDepth 100000
attribute [local irreducible] Run RunL QStep GStep Fn Less PL FnM

theorem andLow {k : IntKind} (hb : 9 ≤ k.bits ∨ k.bits = 8) (a w : Nat) (ha : a < 256) (hw : w ≤ 8) : (BitVec.ofInt k.bits (a : Int) &&& BitVec.ofInt k.bits ((2 ^ w - 1 : Nat) : Int) : BitVec k.bits).toNat = a % 2 ^ w := by
  have h1 : (256 : Nat) ≤ 2 ^ k.bits := by
    rw [show (256 : Nat) = 2 ^ 8 by decide]
    exact Nat.pow_le_pow_right (by omega) (by omega)
  have h2 : 2 ^ w ≤ 2 ^ 8 := Nat.pow_le_pow_right (by omega) hw
  have h3 : (2 : Nat) ^ 8 = 256 := by decide
  rw [BitVec.toNat_and, BitVec.ofInt_natCast, BitVec.ofInt_natCast, BitVec.toNat_ofNat, BitVec.toNat_ofNat, Nat.mod_eq_of_lt (by omega), Nat.mod_eq_of_lt (by omega), Nat.and_two_pow_sub_one_eq_mod]
theorem orLow {k : IntKind} (w a b : Nat) (hb : b < 2 ^ w) (hs : 2 ^ w * a + b < 2 ^ k.bits) : (BitVec.ofInt k.bits ((2 ^ w * a : Nat) : Int) ||| BitVec.ofInt k.bits (b : Int) : BitVec k.bits).toNat = 2 ^ w * a + b := by
  rw [BitVec.toNat_or, BitVec.ofInt_natCast, BitVec.ofInt_natCast, BitVec.toNat_ofNat, BitVec.toNat_ofNat, Nat.mod_eq_of_lt (by omega), Nat.mod_eq_of_lt (by omega), ← Nat.two_pow_add_eq_or_of_lt hb]
theorem orU8 (w f n : Nat) (hf : f % 2 ^ w = 0) (hn : n < 2 ^ w) (hs : f + n < 256) : bitsI .or .u8 (f : Int) (n : Int) = ((f + n : Nat) : Int) := by
  have hd : 2 ^ w * (f / 2 ^ w) = f := by have := Nat.div_add_mod f (2 ^ w); omega
  have := orLow (k := .u8) w (f / 2 ^ w) n hn (by rw [hd]; show f + n < 2 ^ 8; omega)
  rw [hd] at this
  show IntKind.u8.wrap _ = _
  rw [this, IntKind.wrap_u8]
  omega
/-- bytes behind a number -/
def numG (a : Nat) (l : List UInt8) : Nat := l.foldl (fun a c => a * 256 + c.toNat) a
end Go.Proofs.Ytfdomanbdfekhaa

/-
  The reference's big. No condition.
-/
set_option linter.unusedVariables false
set_option linter.unusedSimpArgs false
set_option linter.unusedVariables false
namespace Go.Proofs.Ytfdomanbdfekhaa
set_option maxRecDepth 100000
attribute [local irreducible] Run RunL QStep GStep Fn Less PL FnM

theorem big_fn (n size : Nat) (hs : size ≤ 100) : Fn Try.prog 74 [.lit (.int .u64 n), .lit (.int .i64 size)] (.lit (.string (strB (bigB n size)))) := by
  refine fn_of_run (by kernel_rfl) Try.func74 rfl (by kernel_rfl) ?_
  (repeat' first | (refine go_ ?_; ((repeat' first | exact True.intro | refine Two.mk ?_ ?_); all_goals intros)) | fail "")
  refine r_for (fun k : Nat => ⟨[(0, .lit (.int .u64 ((n / 256 ^ k : Nat) : Int))), (5, .lit (.string (strB (bigB n k)))), (6, .lit (.int .i64 size)), (7, .lit (.int .i64 k))], [], 0, Try.f74.ntmps⟩)
    (fun k => k ≤ size) (fun k => size - k) 0 (by omega) (by (exact lessA_)) ?_
  intro k hk
  have hl := bigB_length n k
  have e := shr8 n k
  by_cases hkn : k < size
  · (repeat' first | (refine s_bstr (l := [UInt8.ofNat (n / 256 ^ k)]) (hv := ?_) (h := ?_); (focus exact u8_big n k)) | (refine s_sadd (r := bigB n (k + 1)) ?_ ?_ (h := ?_); (focus (first | rfl | (simp; done))); (focus (first | omega | (simp only [List.length_append, List.length_map, List.length_cons, List.length_nil, List.length_take, List.length_drop]; omega)))) | (refine p_sadd (r := bigB n (k + 1)) ?_ ?_ (h := ?_); (focus (first | rfl | (simp; done))); (focus (first | omega | (simp only [List.length_append, List.length_map, List.length_cons, List.length_nil, List.length_take, List.length_drop]; omega)))) | (refine goI_ ?_; ((repeat' first | exact True.intro | refine Two.mk ?_ ?_); all_goals intros)) | refine s_i (h := ?_) | refine s_i (hq := q_index_ro rfl rfl rfl (by first | exact lit0 | exact lit1 | exact lit2 | exact lit3 | rfl) (by simp only [List.length_cons, List.length_nil]; omega) rfl rfl rfl rfl) (h := ?_) | refine p_i (h := ?_) | refine p_ih (h := ?_) | refine s_lit (h := ?_) | refine p_lit (h := ?_) | refine p_lit0 (h := ?_) | refine s_lit0 (h := ?_) | refine s_ixa (h := ?_) | refine s_insert (h := ?_) | (refine s_sadd rfl ?_ (h := ?_); (focus (first | omega | (simp only [List.length_append, List.length_map, List.length_cons, List.length_nil, List.length_take, List.length_drop]; omega)))) | (refine p_sadd rfl ?_ (h := ?_); (focus (first | omega | (simp only [List.length_append, List.length_map, List.length_cons, List.length_nil, List.length_take, List.length_drop]; omega)))) | fail "")
    all_goals (rw [e]; (refine ⟨k + 1, ?_, ?_, ?_⟩; rotate_left 2; (exact lessA_); (focus (omega)); (focus (omega))))
  · have : k = size := by omega
    subst this
    (repeat' first | (refine go_ ?_; ((repeat' first | exact True.intro | refine Two.mk ?_ ?_); all_goals intros)) | fail "")
    all_goals exact ends_ (hr := rfl)

end Go.Proofs.Ytfdomanbdfekhaa

/-
  The reference's upTo. No condition.
-/
set_option linter.unusedVariables false
set_option linter.unusedSimpArgs false
set_option linter.unusedVariables false
namespace Go.Proofs.Ytfdomanbdfekhaa
set_option maxRecDepth 100000
attribute [local irreducible] Run RunL QStep GStep Fn Less PL

theorem upTo_fn (a b : Int) : Fn Try.prog 40 [.lit (.int .i64 a), .lit (.int .i64 b)] (.lit (.bool (decide (0 ≤ a ∧ a ≤ b)))) := by
  refine fn_of_run (by kernel_rfl) Try.func40 rfl (by kernel_rfl) ?_
  (repeat' first | (refine go_ ?_; ((repeat' first | exact True.intro | refine Two.mk ?_ ?_); all_goals intros)) | fail "")
  all_goals refine ends_ (hr := ?_)
  all_goals first
    | rw [decide_eq_true (by omega)]
    | rw [decide_eq_false (by omega)]
end Go.Proofs.Ytfdomanbdfekhaa

/-
  The laws' sameBytes. No condition.
-/
set_option linter.unusedVariables false
set_option linter.unusedSimpArgs false
set_option linter.unusedVariables false
namespace Go.Proofs.Ytfdomanbdfekhaa
set_option maxRecDepth 100000
attribute [local irreducible] Run RunL QStep GStep Fn Less PL

theorem sameBytes_fn (l m : List UInt8) : Fn Try.prog 15 [.ro (l.map encB), .ro (m.map encB)] (.lit (.bool (yes (l = m)))) := by
  refine fn_of_run (by kernel_rfl) Try.func15 rfl (by kernel_rfl) ?_
  (repeat' first | (refine go_ ?_; ((repeat' first | exact True.intro | refine Two.mk ?_ ?_); all_goals intros)) | fail "")
  all_goals refine ends_ (hr := ?_)
  · exact yesV (by assumption)
  · exact noV (by assumption)
end Go.Proofs.Ytfdomanbdfekhaa
