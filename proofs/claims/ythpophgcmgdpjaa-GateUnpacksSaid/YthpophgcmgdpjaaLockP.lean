/-
  Locking: the words of a key, and a tag: plain lemmas. No condition.
-/
import Derived.Test.YthpophgcmgdpjaaByt
import Derived.Test.YthpophgcmgdpjaaMixP
set_option linter.unusedVariables false
set_option linter.unusedSimpArgs false
set_option linter.unusedVariables false
namespace Go.Proofs.Ythpophgcmgdpjaa
set_option maxRecDepth 100000
attribute [local irreducible] Run RunL QStep GStep Fn Less PL FnM

def startV (key n : Int) : Int := mixV (bitsI .xor .u64 key (mixV (IntKind.u64.wrap n)))
/-- the word beside byte i -/
def wordV (st : Int) (q : Nat) : Nat := (mixV (IntKind.u64.wrap (st + (q : Int)))).toNat
def ks (st : Int) (i : Nat) : UInt8 := UInt8.ofNat (wordV st (i / 8) / 256 ^ (i % 8))
def turnG (st : Int) : Nat → List UInt8 → List UInt8
  | _, [] => []
  | i, c :: r => (c ^^^ ks st i) :: turnG st (i + 1) r
theorem turnG_length (st : Int) : ∀ (l : List UInt8) (i : Nat), (turnG st i l).length = l.length
  | [], _ => rfl
  | c :: r, i => by simp [turnG, turnG_length st r (i + 1)]
theorem turnG_get (st : Int) : ∀ (l : List UInt8) (i k : Nat), k < l.length → (turnG st i l).getD k default = l.getD k default ^^^ ks st (i + k)
  | [], _, _, h => by simp at h
  | c :: r, i, 0, _ => rfl
  | c :: r, i, k + 1, h => by
    have := turnG_get st r (i + 1) k (by simpa using h)
    simp only [turnG, List.getD_cons_succ, this]
    rw [show i + 1 + k = i + (k + 1) by omega]
theorem u8_xor_twice (a b : UInt8) : a ^^^ b ^^^ b = a := by
  apply UInt8.toNat_inj.1
  rw [UInt8.toNat_xor, UInt8.toNat_xor, Nat.xor_assoc, Nat.xor_self, Nat.xor_zero]
theorem turnG_twice (st : Int) : ∀ (l : List UInt8) (i : Nat), turnG st i (turnG st i l) = l
  | [], _ => rfl
  | c :: r, i => by simp only [turnG, u8_xor_twice, turnG_twice st r (i + 1)]
def turnB (key n : Int) (l : List UInt8) : List UInt8 := turnG (startV key n) 0 l
theorem turnB_length (key n : Int) (l : List UInt8) : (turnB key n l).length = l.length := turnG_length _ _ _
theorem turnB_twice (key n : Int) (l : List UInt8) : turnB key n (turnB key n l) = l := turnG_twice _ _ _
theorem xor8 (a b : UInt8) : bitsI .xor .u8 (a.toNat : Int) (b.toNat : Int) = ((a ^^^ b).toNat : Int) := by
  have h1 := a.toNat_lt
  have h2 := b.toNat_lt
  unfold bitsI
  show IntKind.u8.wrap ((((BitVec.ofInt 8 (a.toNat : Int) ^^^ BitVec.ofInt 8 (b.toNat : Int)) : BitVec 8).toNat : Nat) : Int) = _
  rw [BitVec.toNat_xor, BitVec.ofInt_natCast, BitVec.ofInt_natCast, BitVec.toNat_ofNat, BitVec.toNat_ofNat, Nat.mod_eq_of_lt (by omega), Nat.mod_eq_of_lt (by omega), ← UInt8.toNat_xor, IntKind.wrap_u8]
  have := (a ^^^ b).toNat_lt
  omega
theorem ks_val (st : Int) (k : Nat) : IntKind.u8.wrap ((mixV (IntKind.u64.wrap (st + (k : Int) / 8))).fdiv (2 ^ min (8 * ((k : Int) % 8)).toNat IntKind.u64.bits)) = ((ks st k).toNat : Int) := by
  have h1 : min (8 * ((k : Int) % 8)).toNat IntKind.u64.bits = 8 * (k % 8) := by show min (8 * ((k : Int) % 8)).toNat 64 = _; omega
  have h2 : (k : Int) / 8 = ((k / 8 : Nat) : Int) := by omega
  have h3 := mixV_range (IntKind.u64.wrap (st + ((k / 8 : Nat) : Int)))
  unfold ks wordV
  rw [h1, h2]
  generalize mixV (IntKind.u64.wrap (st + ((k / 8 : Nat) : Int))) = x at *
  obtain ⟨m, rfl⟩ := Int.eq_ofNat_of_zero_le h3.1
  rw [fdiv_two_pow, Int.toNat_natCast, Nat.pow_mul, u8_val]
theorem turn_val (st : Int) (k : Nat) (c : UInt8) : bitsI .xor .u8 (c.toNat : Int) (IntKind.u8.wrap ((mixV (IntKind.u64.wrap (st + (k : Int) / 8))).fdiv (2 ^ min (8 * ((k : Int) % 8)).toNat IntKind.u64.bits))) = ((c ^^^ ks st k).toNat : Int) := by
  rw [ks_val, xor8]
/-- half turned -/
def mixL (st : Int) (l : List UInt8) (k : Nat) : List UInt8 := (turnG st 0 l).take k ++ l.drop k
theorem mixL_length {st : Int} {l : List UInt8} {k : Nat} (h : k ≤ l.length) : (mixL st l k).length = l.length := by
  unfold mixL; rw [List.length_append, List.length_take, List.length_drop, turnG_length]; omega
theorem mixL0 (st : Int) (l : List UInt8) : mixL st l 0 = l := by unfold mixL; simp
theorem mixL_all (st : Int) (l : List UInt8) : mixL st l l.length = turnG st 0 l := by
  unfold mixL; rw [List.take_of_length_le (by rw [turnG_length]; exact Nat.le_refl _), List.drop_of_length_le (Nat.le_refl _), List.append_nil]
theorem mixL_get {st : Int} {l : List UInt8} {k : Nat} (h : k < l.length) : (mixL st l k).getD k default = l.getD k default := by
  unfold mixL
  rw [List.getD_eq_getElem?_getD, List.getElem?_append_right (by rw [List.length_take, turnG_length]; omega), List.length_take, turnG_length, Nat.min_eq_left (by omega), Nat.sub_self, List.getElem?_drop, Nat.add_zero, ← List.getD_eq_getElem?_getD]
theorem mixL_set {st : Int} {l : List UInt8} {k : Nat} {v : Int} (h : k < l.length) (hv : v = ((l.getD k default ^^^ ks st k).toNat : Int)) :
    ((mixL st l k).map encB).set k (setAt 0 [.lit (.int .u8 v)] (eAt ((mixL st l k).map encB) k)) = (mixL st l (k + 1)).map encB := by
  subst hv
  have hl := mixL_length (st := st) (Nat.le_of_lt h)
  rw [setAt1 (by rw [eAt_map encB (by omega)]; rfl)]
  have hg := turnG_get st l 0 k h
  rw [Nat.zero_add] at hg
  unfold mixL
  rw [List.map_append, List.set_append_right (h := by rw [List.length_map, List.length_take, turnG_length]; omega), List.length_map, List.length_take, turnG_length, Nat.min_eq_left (by omega), Nat.sub_self, drop_cons h, take_snoc (by rw [turnG_length]; exact h), hg]
  simp only [List.map_append, List.map_cons, List.map_nil, List.set_cons_zero, List.append_assoc, List.cons_append, List.nil_append]
  rfl
/-- a part hashed -/
def hashB (h : Int) (b : List UInt8) : Int := b.foldl (fun h c => mixV (bitsI .xor .u64 h (c.toNat : Int))) h
def tagH (h : Int) (b : List UInt8) : Int := mixV (bitsI .xor .u64 (hashB h b) ((b.length * 256 : Nat) : Int))
def tagV (key n : Int) (ps : List (List UInt8)) : Int := ps.foldl tagH (bitsI .xor .u64 (mixV key) (IntKind.u64.wrap n))
theorem hashB_snoc (h : Int) (l : List UInt8) (c : UInt8) : hashB h (l ++ [c]) = mixV (bitsI .xor .u64 (hashB h l) (c.toNat : Int)) := by unfold hashB; rw [List.foldl_append]; rfl
theorem tagV_range (key n : Int) (ps : List (List UInt8)) : 0 ≤ tagV key n ps ∧ tagV key n ps < 18446744073709551616 := by
  rcases List.eq_nil_or_concat ps with rfl | ⟨qs, p, rfl⟩
  · show 0 ≤ bitsI .xor .u64 (mixV key) (IntKind.u64.wrap n) ∧ _
    exact bitsI_range _ _ _
  · unfold tagV
    rw [List.concat_eq_append, List.foldl_append]
    exact mixV_range _
def tagB (key n : Int) (ps : List (List UInt8)) : List UInt8 := bigB (tagV key n ps).toNat 8
theorem tagB_length (key n : Int) (ps : List (List UInt8)) : (tagB key n ps).length = 8 := bigB_length _ _
/-- P6.3 -/
def sealB (key n : Int) (h t : List UInt8) : List UInt8 := turnB key n t ++ tagB key n [h, t]
end Go.Proofs.Ythpophgcmgdpjaa
