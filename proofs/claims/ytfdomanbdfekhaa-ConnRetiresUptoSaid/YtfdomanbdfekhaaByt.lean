/-
  Numbers in bytes: plain lemmas. No condition.
-/
import Derived.Test.YtfdomanbdfekhaaSeq
import Derived.Test.YtfdomanbdfekhaaAbsB
set_option linter.unusedVariables false
set_option linter.unusedSimpArgs false
set_option linter.unusedVariables false
namespace Go.Proofs.Ytfdomanbdfekhaa
set_option maxRecDepth 100000
attribute [local irreducible] Run RunL QStep GStep Fn Less PL FnM

/-- n in k bytes, the highest one first -/
def bigB (n : Nat) : Nat → List UInt8
  | 0 => []
  | k + 1 => UInt8.ofNat (n / 256 ^ k) :: bigB n k
theorem bigB_length (n : Nat) : ∀ k, (bigB n k).length = k
  | 0 => rfl
  | k + 1 => by simp [bigB, bigB_length n k]
theorem bigB_get (n : Nat) : ∀ k j, j < k → (bigB n k).getD j default = UInt8.ofNat (n / 256 ^ (k - 1 - j))
  | 0, j, h => by omega
  | k + 1, 0, h => by simp [bigB]
  | k + 1, j + 1, h => by
    have := bigB_get n k j (by omega)
    simp only [bigB, List.getD_cons_succ, this]
    rw [show k + 1 - 1 - (j + 1) = k - 1 - j by omega]
theorem u8_val (m : Nat) : ((UInt8.ofNat m).toNat : Int) = IntKind.u8.wrap (m : Int) := by
  rw [IntKind.wrap_u8]
  simp
theorem encB_ofNat (m : Nat) : encB (UInt8.ofNat m) = [.lit (.int .u8 (IntKind.u8.wrap (m : Int)))] := by unfold encB; rw [u8_val]
/-- what is filled so far -/
def fillB (l : List UInt8) (n k : Nat) : List (List V) := (l.take k).map encB ++ List.replicate (n - k) [.lit (.int .u8 0)]
theorem fillB_length {l : List UInt8} {n k : Nat} (hl : l.length = n) (hk : k ≤ n) : (fillB l n k).length = n := by
  unfold fillB; rw [List.length_append, List.length_map, List.length_take, List.length_replicate]; omega
theorem fillB0 (l : List UInt8) (n : Nat) : fillB l n 0 = List.replicate n [.lit (.int .u8 0)] := by unfold fillB; simp
theorem fillB_all {l : List UInt8} {n : Nat} (hl : l.length = n) : fillB l n n = l.map encB := by
  unfold fillB; rw [Nat.sub_self, List.take_of_length_le (by omega)]; simp
theorem fillB_set {l : List UInt8} {n k : Nat} {v : Int} (hl : l.length = n) (hk : k < n) (hv : [.lit (.int .u8 v)] = encB (l.getD k default)) :
    (fillB l n k).set k [.lit (.int .u8 v)] = fillB l n (k + 1) := by
  have h1 : n - k = (n - (k + 1)) + 1 := by omega
  unfold fillB
  rw [hv, take_snoc (by omega), List.map_append, h1, List.replicate_succ, List.set_append_right (h := by rw [List.length_map, List.length_take]; omega), List.append_assoc]
  congr 1
  rw [List.length_map, List.length_take, Nat.min_eq_left (show k ≤ l.length by omega), Nat.sub_self]
  simp
theorem fillB_elem {l : List UInt8} {n k : Nat} (hl : l.length = n) (hk : k < n) : (eAt (fillB l n k) k).length = 1 := by
  unfold fillB eAt
  rw [List.getD_eq_getElem?_getD, List.getElem?_append_right (by rw [List.length_map, List.length_take]; omega), List.length_map, List.length_take, Nat.min_eq_left (by omega), Nat.sub_self, List.getElem?_replicate, if_pos (by omega)]
  rfl
theorem setAt1 {v : V} {c : List V} (h : c.length = 1) : setAt 0 [v] c = [v] := by
  match c, h with
  | [x], _ => rfl
theorem fdiv_two_pow (n k : Nat) : (n : Int).fdiv (2 ^ k) = ((n / 2 ^ k : Nat) : Int) := by
  rw [Int.fdiv_eq_ediv_of_nonneg _ (by exact_mod_cast Nat.zero_le _)]
  push_cast
  rfl

theorem u8_big (n k : Nat) : some [[V.lit (.int .u8 (IntKind.u8.wrap ((n / 256 ^ k : Nat) : Int)))]] = some ([UInt8.ofNat (n / 256 ^ k)].map encB) := by
  rw [List.map_cons, List.map_nil, encB_ofNat]
theorem shr8 (n k : Nat) : ((n / 256 ^ k : Nat) : Int).fdiv (2 ^ min (8 : Int).toNat IntKind.u64.bits) = ((n / 256 ^ (k + 1) : Nat) : Int) := by
  rw [show min (8 : Int).toNat IntKind.u64.bits = 8 from rfl, fdiv_two_pow, Nat.div_div_eq_div_mul, show (256 : Nat) ^ (k + 1) = 256 ^ k * 2 ^ 8 from by rw [Nat.pow_succ]]
/-- as the machine adds -/
def numV (l : List UInt8) : Int := l.foldl (fun a c => IntKind.u64.wrap (IntKind.u64.wrap (a * 256) + c.toNat)) 0
/-- a number in bytes -/
def numB (l : List UInt8) : Nat := l.foldl (fun a c => a * 256 + c.toNat) 0
theorem numB_snoc (l : List UInt8) (c : UInt8) : numB (l ++ [c]) = numB l * 256 + c.toNat := by unfold numB; rw [List.foldl_append]; rfl
theorem numV_snoc (l : List UInt8) (c : UInt8) : numV (l ++ [c]) = IntKind.u64.wrap (IntKind.u64.wrap (numV l * 256) + c.toNat) := by unfold numV; rw [List.foldl_append]; rfl
theorem snoc_of {l : List UInt8} (h : l ≠ []) : ∃ m c, l = m ++ [c] := ⟨l.dropLast, l.getLast h, (List.dropLast_concat_getLast h).symm⟩
theorem numB_lt : ∀ (k : Nat) (l : List UInt8), l.length = k → numB l < 256 ^ k
  | 0, l, h => by
    have : l = [] := List.length_eq_zero_iff.1 h
    subst this; decide
  | k + 1, l, h => by
    have hne : l ≠ [] := fun e => by rw [e] at h; cases h
    obtain ⟨m, c, rfl⟩ : ∃ m c, l = m ++ [c] := snoc_of hne
    have h1 := numB_lt k m (by simpa using h)
    rw [numB_snoc, Nat.pow_succ]
    have := c.toNat_lt
    omega
theorem numV_num : ∀ (k : Nat) (l : List UInt8), l.length = k → k ≤ 8 → numV l = (numB l : Int)
  | 0, l, h, _ => by
    have : l = [] := List.length_eq_zero_iff.1 h
    subst this; rfl
  | k + 1, l, h, hk => by
    have hne : l ≠ [] := fun e => by rw [e] at h; cases h
    obtain ⟨m, c, rfl⟩ : ∃ m c, l = m ++ [c] := snoc_of hne
    have hm : m.length = k := by simpa using h
    have h1 := numB_lt k m hm
    have h2 := numV_num k m hm (by omega)
    have h3 : 256 ^ k ≤ 256 ^ 7 := Nat.pow_le_pow_right (by omega) (by omega)
    have h4 : (256 : Nat) ^ 7 = 72057594037927936 := by decide
    have := c.toNat_lt
    rw [numV_snoc, numB_snoc, h2, IntKind.wrap_u64, IntKind.wrap_u64]
    omega
end Go.Proofs.Ytfdomanbdfekhaa
