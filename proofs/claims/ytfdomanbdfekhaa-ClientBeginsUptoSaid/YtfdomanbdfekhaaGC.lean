/-
  SEVERAL TEXTS IN ONE: each with its own comment.
-/
import Derived.Test.YtfdomanbdfekhaaGB
import Derived.Test.YtfdomanbdfekhaaGA
import Derived.Test.YtfdomanbdfekhaaProg
import Derived.Test.YtfdomanbdfekhaaAbsB
/-
  Plain lemmas on lists.
-/
set_option linter.unusedVariables false
set_option linter.unusedSimpArgs false
set_option linter.unusedVariables false
namespace Go.Proofs.Ytfdomanbdfekhaa
theorem drop_cons {α : Type} [Inhabited α] {l : List α} {k : Nat} (h : k < l.length) : l.drop k = l.getD k default :: l.drop (k + 1) := by
  rw [List.drop_eq_getElem_cons h, List.getD_eq_getElem?_getD, List.getElem?_eq_getElem h]; rfl
theorem getD_mem {α : Type} [Inhabited α] {l : List α} {k : Nat} (h : k < l.length) : l.getD k default ∈ l := by
  rw [List.getD_eq_getElem?_getD, List.getElem?_eq_getElem h]; exact List.getElem_mem h
theorem take_snoc {α : Type} [Inhabited α] {l : List α} {k : Nat} (h : k < l.length) : l.take (k + 1) = l.take k ++ [l.getD k default] := by
  rw [List.take_succ_eq_append_getElem h, List.getD_eq_getElem?_getD, List.getElem?_eq_getElem h]; rfl
theorem take_same {α : Type} [Inhabited α] {l m : List α} {k : Nat} (h : k < l.length) (h2 : k < m.length) (ht : l.take k = m.take k) (he : l.getD k default = m.getD k default) : l.take (k + 1) = m.take (k + 1) := by
  rw [take_snoc h, take_snoc h2, ht, he]
theorem ne_getD {α : Type} [Inhabited α] {l m : List α} {k : Nat} (h : l.getD k default ≠ m.getD k default) : l ≠ m := fun e => h (by rw [e])
theorem take_all {α : Type} {l m : List α} {k : Nat} (h : k = l.length) (h2 : k = m.length) (ht : l.take k = m.take k) : l = m := by
  rw [List.take_of_length_le (by omega), List.take_of_length_le (by omega)] at ht; exact ht
/-- two lists gone through together, as long as all agrees -/
def Along {α : Type} (l m : List α) (same : Prop) (k : Nat) (ok : Bool) : Prop := k ≤ l.length ∧ (ok = true → l.length = m.length ∧ l.take k = m.take k) ∧ (ok = false → ¬ same)
theorem mem_take_snoc {α : Type} [Inhabited α] {l : List α} {k : Nat} {p : α → Prop} (h : k < l.length) (ht : ∀ x ∈ l.take k, p x) (hk : p (l.getD k default)) : ∀ x ∈ l.take (k + 1), p x := by
  intro x hx
  rw [take_snoc h, List.mem_append, List.mem_singleton] at hx
  rcases hx with hx | rfl
  · exact ht x hx
  · exact hk
def AllTo (Q : Nat → Prop) (k : Nat) : Prop := ∀ i, i < k → Q i
theorem allTo0 {Q : Nat → Prop} : AllTo Q 0 := fun i h => by omega
theorem allTo_succ {Q : Nat → Prop} {k : Nat} : AllTo Q (k + 1) ↔ AllTo Q k ∧ Q k :=
  ⟨fun h => ⟨fun i hi => h i (by omega), h k (by omega)⟩, fun h i hi => by
    by_cases e : i = k
    · subst e; exact h.2
    · exact h.1 i (by omega)⟩
end Go.Proofs.Ytfdomanbdfekhaa

/-
  The words of a lock: plain lemmas. No condition.
-/
set_option linter.unusedVariables false
set_option linter.unusedSimpArgs false
set_option linter.unusedVariables false
namespace Go.Proofs.Ytfdomanbdfekhaa
set_option maxRecDepth 100000
attribute [local irreducible] Run RunL QStep GStep Fn Less PL FnM

def mxS (x : Int) (s : Nat) : Int := bitsI .xor .u64 x (x.fdiv (2 ^ s))
def mx1 (x : Int) : Int := IntKind.u64.wrap (x + 11400714819323198485)
def mx2 (x : Int) : Int := IntKind.u64.wrap (mxS x 30 * 13787848793156543929)
def mx3 (x : Int) : Int := IntKind.u64.wrap (mxS x 27 * 10723151780598845931)
/-- P6.1 -/
def mixV (x : Int) : Int := mxS (mx3 (mx2 (mx1 x))) 31
theorem u64_range (x : Int) : 0 ≤ IntKind.u64.wrap x ∧ IntKind.u64.wrap x < 18446744073709551616 := by rw [IntKind.wrap_u64]; omega
theorem bitsI_range (op : BinOp) (x y : Int) : 0 ≤ bitsI op .u64 x y ∧ bitsI op .u64 x y < 18446744073709551616 := by unfold bitsI; exact u64_range _
theorem mixV_range (x : Int) : 0 ≤ mixV x ∧ mixV x < 18446744073709551616 := by unfold mixV; generalize mx3 (mx2 (mx1 x)) = y; unfold mxS; generalize y.fdiv (2 ^ 31) = z; exact bitsI_range _ _ _
/-- P6.2 -/
def keyV (s n : Int) : Int := mixV (bitsI .xor .u64 (mixV s) (IntKind.u64.wrap n))
theorem bitsI_xor_comm (a b : Int) : bitsI .xor .u64 a b = bitsI .xor .u64 b a := by
  unfold bitsI
  dsimp only
  rw [BitVec.xor_comm]

def mxK (x : Int) : Nat → Int
  | 0 => x
  | 1 => mx1 x
  | 2 => mx2 (mx1 x)
  | _ => mx3 (mx2 (mx1 x))

end Go.Proofs.Ytfdomanbdfekhaa

/-
  lock.Mix, and the reference's Mixed. No condition.
-/
set_option linter.unusedVariables false
set_option linter.unusedSimpArgs false
set_option linter.unusedVariables false
namespace Go.Proofs.Ytfdomanbdfekhaa
set_option maxRecDepth 100000
attribute [local irreducible] Run RunL QStep GStep Fn Less PL FnM

theorem mix_fn (x : Int) : Fn Try.prog 149 [.lit (.int .u64 x)] (.lit (.int .u64 (mixV x))) := by
  refine fn_of_run (by kernel_rfl) Try.func149 rfl (by kernel_rfl) ?_
  (repeat' first | (refine go_ ?_; ((repeat' first | exact True.intro | refine Two.mk ?_ ?_); all_goals intros)) | fail "")
  all_goals exact ends_ (hr := rfl)
theorem mixed_fn (x : Int) : Fn Try.prog 152 [.lit (.int .u64 x)] (.lit (.int .u64 (mixV x))) := by
  refine fn_of_run (by kernel_rfl) Try.func152 rfl (by kernel_rfl) ?_
  (repeat' first | (refine go_ ?_; ((repeat' first | exact True.intro | refine Two.mk ?_ ?_); all_goals intros)) | fail "")
  refine r_for (fun k : Nat => ⟨[(0, .lit (.int .u64 (mxK x k))), (5, .ro [[.lit (.int .u64 1)], [.lit (.int .u64 13787848793156543929)], [.lit (.int .u64 10723151780598845931)]]), (6, .lit (.int .i64 3)), (7, .lit (.int .i64 k))], [], 0, Try.f152.ntmps⟩)
    (fun k => k ≤ 3) (fun k => 3 - k) 0 (by omega) less_to ?_
  intro k hk
  rcases (show k = 0 ∨ k = 1 ∨ k = 2 ∨ k = 3 by omega) with rfl | rfl | rfl | rfl
  · (repeat' first | (refine go_ ?_; ((repeat' first | exact True.intro | refine Two.mk ?_ ?_); all_goals intros)) | fail "")
    all_goals (refine ⟨1, ?_, ?_, ?_⟩; rotate_left 2; (exact lessA_); (focus (omega)); (focus (omega)))
  · (repeat' first | (refine go_ ?_; ((repeat' first | exact True.intro | refine Two.mk ?_ ?_); all_goals intros)) | fail "")
    all_goals (refine ⟨2, ?_, ?_, ?_⟩; rotate_left 2; (exact lessA_); (focus (omega)); (focus (omega)))
  · (repeat' first | (refine go_ ?_; ((repeat' first | exact True.intro | refine Two.mk ?_ ?_); all_goals intros)) | fail "")
    all_goals (refine ⟨3, ?_, ?_, ?_⟩; rotate_left 2; (exact lessA_); (focus (omega)); (focus (omega)))
  · (repeat' first | (refine go_ ?_; ((repeat' first | exact True.intro | refine Two.mk ?_ ?_); all_goals intros)) | fail "")
    all_goals exact ends_ (hr := rfl)
end Go.Proofs.Ytfdomanbdfekhaa

/-
  lock.Key, and the reference's KeyOf. No condition.
-/
set_option linter.unusedVariables false
set_option linter.unusedSimpArgs false
set_option linter.unusedVariables false
namespace Go.Proofs.Ytfdomanbdfekhaa
set_option maxRecDepth 100000
attribute [local irreducible] Run RunL QStep GStep Fn Less PL FnM

theorem key_fn (s n : Int) : Fn Try.prog 116 [.lit (.int .u64 s), .lit (.int .i64 n)] (.lit (.int .u64 (keyV s n))) := by
  refine fn_of_run (by kernel_rfl) Try.func116 rfl (by kernel_rfl) ?_
  (repeat' first | (refine s_call (mix_fn _) (h := ?_)) | (refine p_call (mix_fn _) (h := ?_)) | (refine go_ ?_; ((repeat' first | exact True.intro | refine Two.mk ?_ ?_); all_goals intros)) | fail "")
  all_goals exact ends_ (hr := rfl)
theorem keyOf_fn (s n : Int) : Fn Try.prog 122 [.lit (.int .u64 s), .lit (.int .i64 n)] (.lit (.int .u64 (keyV s n))) := by
  have h : keyV s n = mixV (bitsI .xor .u64 (IntKind.u64.wrap n) (mixV s)) := by unfold keyV; rw [bitsI_xor_comm]
  rw [h]
  refine fn_of_run (by kernel_rfl) Try.func122 rfl (by kernel_rfl) ?_
  (repeat' first | (refine s_call (mixed_fn _) (h := ?_)) | (refine p_call (mixed_fn _) (h := ?_)) | (refine go_ ?_; ((repeat' first | exact True.intro | refine Two.mk ?_ ?_); all_goals intros)) | fail "")
  all_goals exact ends_ (hr := rfl)
end Go.Proofs.Ytfdomanbdfekhaa

/-
  The reference's upTo. No condition.
-/
set_option linter.unusedVariables false
set_option linter.unusedSimpArgs false
set_option linter.unusedVariables false
namespace Go.Proofs.Ytfdomanbdfekhaa
set_option maxRecDepth 100000
attribute [local irreducible] Run RunL QStep GStep Fn Less PL

theorem upTo_fn (a b : Int) : Fn Try.prog 40 [.lit (.int .i64 a), .lit (.int .i64 b)] (.lit (.bool (decide (0 ≤ a ∧ a ≤ b)))) := by
  refine fn_of_run (by kernel_rfl) Try.func40 rfl (by kernel_rfl) ?_
  (repeat' first | (refine go_ ?_; ((repeat' first | exact True.intro | refine Two.mk ?_ ?_); all_goals intros)) | fail "")
  all_goals refine ends_ (hr := ?_)
  all_goals first
    | rw [decide_eq_true (by omega)]
    | rw [decide_eq_false (by omega)]
end Go.Proofs.Ytfdomanbdfekhaa

/-
  The laws' sameBytes. No condition.
-/
set_option linter.unusedVariables false
set_option linter.unusedSimpArgs false
set_option linter.unusedVariables false
namespace Go.Proofs.Ytfdomanbdfekhaa
set_option maxRecDepth 100000
attribute [local irreducible] Run RunL QStep GStep Fn Less PL

theorem sameBytes_fn (l m : List UInt8) : Fn Try.prog 15 [.ro (l.map encB), .ro (m.map encB)] (.lit (.bool (yes (l = m)))) := by
  refine fn_of_run (by kernel_rfl) Try.func15 rfl (by kernel_rfl) ?_
  (repeat' first | (refine go_ ?_; ((repeat' first | exact True.intro | refine Two.mk ?_ ?_); all_goals intros)) | fail "")
  all_goals refine ends_ (hr := ?_)
  · exact yesV (by assumption)
  · exact noV (by assumption)
end Go.Proofs.Ytfdomanbdfekhaa

/-
  Numbers in bytes: plain lemmas. No condition.
-/
set_option linter.unusedVariables false
set_option linter.unusedSimpArgs false
set_option linter.unusedVariables false
namespace Go.Proofs.Ytfdomanbdfekhaa
set_option maxRecDepth 100000
attribute [local irreducible] Run RunL QStep GStep Fn Less PL FnM

/-- n in k bytes, the highest one first -/
def bigB (n : Nat) : Nat → List UInt8
  | 0 => []
  | k + 1 => UInt8.ofNat (n / 256 ^ k) :: bigB n k
theorem bigB_length (n : Nat) : ∀ k, (bigB n k).length = k
  | 0 => rfl
  | k + 1 => by simp [bigB, bigB_length n k]
theorem bigB_get (n : Nat) : ∀ k j, j < k → (bigB n k).getD j default = UInt8.ofNat (n / 256 ^ (k - 1 - j))
  | 0, j, h => by omega
  | k + 1, 0, h => by simp [bigB]
  | k + 1, j + 1, h => by
    have := bigB_get n k j (by omega)
    simp only [bigB, List.getD_cons_succ, this]
    rw [show k + 1 - 1 - (j + 1) = k - 1 - j by omega]
theorem u8_val (m : Nat) : ((UInt8.ofNat m).toNat : Int) = IntKind.u8.wrap (m : Int) := by
  rw [IntKind.wrap_u8]
  simp
theorem encB_ofNat (m : Nat) : encB (UInt8.ofNat m) = [.lit (.int .u8 (IntKind.u8.wrap (m : Int)))] := by unfold encB; rw [u8_val]
/-- what is filled so far -/
def fillB (l : List UInt8) (n k : Nat) : List (List V) := (l.take k).map encB ++ List.replicate (n - k) [.lit (.int .u8 0)]
theorem fillB_length {l : List UInt8} {n k : Nat} (hl : l.length = n) (hk : k ≤ n) : (fillB l n k).length = n := by
  unfold fillB; rw [List.length_append, List.length_map, List.length_take, List.length_replicate]; omega
theorem fillB0 (l : List UInt8) (n : Nat) : fillB l n 0 = List.replicate n [.lit (.int .u8 0)] := by unfold fillB; simp
theorem fillB_all {l : List UInt8} {n : Nat} (hl : l.length = n) : fillB l n n = l.map encB := by
  unfold fillB; rw [Nat.sub_self, List.take_of_length_le (by omega)]; simp
theorem fillB_set {l : List UInt8} {n k : Nat} {v : Int} (hl : l.length = n) (hk : k < n) (hv : [.lit (.int .u8 v)] = encB (l.getD k default)) :
    (fillB l n k).set k [.lit (.int .u8 v)] = fillB l n (k + 1) := by
  have h1 : n - k = (n - (k + 1)) + 1 := by omega
  unfold fillB
  rw [hv, take_snoc (by omega), List.map_append, h1, List.replicate_succ, List.set_append_right (h := by rw [List.length_map, List.length_take]; omega), List.append_assoc]
  congr 1
  rw [List.length_map, List.length_take, Nat.min_eq_left (show k ≤ l.length by omega), Nat.sub_self]
  simp
theorem fillB_elem {l : List UInt8} {n k : Nat} (hl : l.length = n) (hk : k < n) : (eAt (fillB l n k) k).length = 1 := by
  unfold fillB eAt
  rw [List.getD_eq_getElem?_getD, List.getElem?_append_right (by rw [List.length_map, List.length_take]; omega), List.length_map, List.length_take, Nat.min_eq_left (by omega), Nat.sub_self, List.getElem?_replicate, if_pos (by omega)]
  rfl
theorem setAt1 {v : V} {c : List V} (h : c.length = 1) : setAt 0 [v] c = [v] := by
  match c, h with
  | [x], _ => rfl
theorem fdiv_two_pow (n k : Nat) : (n : Int).fdiv (2 ^ k) = ((n / 2 ^ k : Nat) : Int) := by
  rw [Int.fdiv_eq_ediv_of_nonneg _ (by exact_mod_cast Nat.zero_le _)]
  push_cast
  rfl

theorem u8_big (n k : Nat) : some [[V.lit (.int .u8 (IntKind.u8.wrap ((n / 256 ^ k : Nat) : Int)))]] = some ([UInt8.ofNat (n / 256 ^ k)].map encB) := by
  rw [List.map_cons, List.map_nil, encB_ofNat]
theorem shr8 (n k : Nat) : ((n / 256 ^ k : Nat) : Int).fdiv (2 ^ min (8 : Int).toNat IntKind.u64.bits) = ((n / 256 ^ (k + 1) : Nat) : Int) := by
  rw [show min (8 : Int).toNat IntKind.u64.bits = 8 from rfl, fdiv_two_pow, Nat.div_div_eq_div_mul, show (256 : Nat) ^ (k + 1) = 256 ^ k * 2 ^ 8 from by rw [Nat.pow_succ]]
/-- as the machine adds -/
def numV (l : List UInt8) : Int := l.foldl (fun a c => IntKind.u64.wrap (IntKind.u64.wrap (a * 256) + c.toNat)) 0
/-- a number in bytes -/
def numB (l : List UInt8) : Nat := l.foldl (fun a c => a * 256 + c.toNat) 0
theorem numB_snoc (l : List UInt8) (c : UInt8) : numB (l ++ [c]) = numB l * 256 + c.toNat := by unfold numB; rw [List.foldl_append]; rfl
theorem numV_snoc (l : List UInt8) (c : UInt8) : numV (l ++ [c]) = IntKind.u64.wrap (IntKind.u64.wrap (numV l * 256) + c.toNat) := by unfold numV; rw [List.foldl_append]; rfl
theorem snoc_of {l : List UInt8} (h : l ≠ []) : ∃ m c, l = m ++ [c] := ⟨l.dropLast, l.getLast h, (List.dropLast_concat_getLast h).symm⟩
theorem numB_lt : ∀ (k : Nat) (l : List UInt8), l.length = k → numB l < 256 ^ k
  | 0, l, h => by
    have : l = [] := List.length_eq_zero_iff.1 h
    subst this; decide
  | k + 1, l, h => by
    have hne : l ≠ [] := fun e => by rw [e] at h; cases h
    obtain ⟨m, c, rfl⟩ : ∃ m c, l = m ++ [c] := snoc_of hne
    have h1 := numB_lt k m (by simpa using h)
    rw [numB_snoc, Nat.pow_succ]
    have := c.toNat_lt
    omega
theorem numV_num : ∀ (k : Nat) (l : List UInt8), l.length = k → k ≤ 8 → numV l = (numB l : Int)
  | 0, l, h, _ => by
    have : l = [] := List.length_eq_zero_iff.1 h
    subst this; rfl
  | k + 1, l, h, hk => by
    have hne : l ≠ [] := fun e => by rw [e] at h; cases h
    obtain ⟨m, c, rfl⟩ : ∃ m c, l = m ++ [c] := snoc_of hne
    have hm : m.length = k := by simpa using h
    have h1 := numB_lt k m hm
    have h2 := numV_num k m hm (by omega)
    have h3 : 256 ^ k ≤ 256 ^ 7 := Nat.pow_le_pow_right (by omega) (by omega)
    have h4 : (256 : Nat) ^ 7 = 72057594037927936 := by decide
    have := c.toNat_lt
    rw [numV_snoc, numB_snoc, h2, IntKind.wrap_u64, IntKind.wrap_u64]
    omega
end Go.Proofs.Ytfdomanbdfekhaa

/-
  The reference's big. No condition.
-/
set_option linter.unusedVariables false
set_option linter.unusedSimpArgs false
set_option linter.unusedVariables false
namespace Go.Proofs.Ytfdomanbdfekhaa
set_option maxRecDepth 100000
attribute [local irreducible] Run RunL QStep GStep Fn Less PL FnM

theorem big_fn (n size : Nat) (hs : size ≤ 100) : Fn Try.prog 74 [.lit (.int .u64 n), .lit (.int .i64 size)] (.lit (.string (strB (bigB n size)))) := by
  refine fn_of_run (by kernel_rfl) Try.func74 rfl (by kernel_rfl) ?_
  (repeat' first | (refine go_ ?_; ((repeat' first | exact True.intro | refine Two.mk ?_ ?_); all_goals intros)) | fail "")
  refine r_for (fun k : Nat => ⟨[(0, .lit (.int .u64 ((n / 256 ^ k : Nat) : Int))), (5, .lit (.string (strB (bigB n k)))), (6, .lit (.int .i64 size)), (7, .lit (.int .i64 k))], [], 0, Try.f74.ntmps⟩)
    (fun k => k ≤ size) (fun k => size - k) 0 (by omega) (by (exact lessA_)) ?_
  intro k hk
  have hl := bigB_length n k
  have e := shr8 n k
  by_cases hkn : k < size
  · (repeat' first | (refine s_bstr (l := [UInt8.ofNat (n / 256 ^ k)]) (hv := ?_) (h := ?_); (focus exact u8_big n k)) | (refine s_sadd (r := bigB n (k + 1)) ?_ ?_ (h := ?_); (focus (first | rfl | (simp; done))); (focus (first | omega | (simp only [List.length_append, List.length_map, List.length_cons, List.length_nil, List.length_take, List.length_drop]; omega)))) | (refine p_sadd (r := bigB n (k + 1)) ?_ ?_ (h := ?_); (focus (first | rfl | (simp; done))); (focus (first | omega | (simp only [List.length_append, List.length_map, List.length_cons, List.length_nil, List.length_take, List.length_drop]; omega)))) | (refine goI_ ?_; ((repeat' first | exact True.intro | refine Two.mk ?_ ?_); all_goals intros)) | refine s_i (h := ?_) | refine s_i (hq := q_index_ro rfl rfl rfl (by first | exact lit0 | exact lit1 | exact lit2 | exact lit3 | rfl) (by simp only [List.length_cons, List.length_nil]; omega) rfl rfl rfl rfl) (h := ?_) | refine p_i (h := ?_) | refine p_ih (h := ?_) | refine s_lit (h := ?_) | refine p_lit (h := ?_) | refine p_lit0 (h := ?_) | refine s_lit0 (h := ?_) | refine s_ixa (h := ?_) | refine s_insert (h := ?_) | (refine s_sadd rfl ?_ (h := ?_); (focus (first | omega | (simp only [List.length_append, List.length_map, List.length_cons, List.length_nil, List.length_take, List.length_drop]; omega)))) | (refine p_sadd rfl ?_ (h := ?_); (focus (first | omega | (simp only [List.length_append, List.length_map, List.length_cons, List.length_nil, List.length_take, List.length_drop]; omega)))) | fail "")
    all_goals (rw [e]; (refine ⟨k + 1, ?_, ?_, ?_⟩; rotate_left 2; (exact lessA_); (focus (omega)); (focus (omega))))
  · have : k = size := by omega
    subst this
    (repeat' first | (refine go_ ?_; ((repeat' first | exact True.intro | refine Two.mk ?_ ?_); all_goals intros)) | fail "")
    all_goals exact ends_ (hr := rfl)

theorem big8_fn (n : Nat) : Fn Try.prog 74 [.lit (.int .u64 n), .lit (.int .i64 8)] (.lit (.string (strB (bigB n 8)))) := big_fn n 8 (by omega)
end Go.Proofs.Ytfdomanbdfekhaa

/-
  Bits of numbers, and numbers out of bytes: plain lemmas. No condition.
-/
set_option linter.unusedVariables false
set_option linter.unusedSimpArgs false
set_option linter.unusedVariables false
namespace Go.Proofs.Ytfdomanbdfekhaa
set_option maxRecDepth 100000
attribute [local irreducible] Run RunL QStep GStep Fn Less PL FnM

theorem andLow {k : IntKind} (hb : 9 ≤ k.bits ∨ k.bits = 8) (a w : Nat) (ha : a < 256) (hw : w ≤ 8) : (BitVec.ofInt k.bits (a : Int) &&& BitVec.ofInt k.bits ((2 ^ w - 1 : Nat) : Int) : BitVec k.bits).toNat = a % 2 ^ w := by
  have h1 : (256 : Nat) ≤ 2 ^ k.bits := by
    rw [show (256 : Nat) = 2 ^ 8 by decide]
    exact Nat.pow_le_pow_right (by omega) (by omega)
  have h2 : 2 ^ w ≤ 2 ^ 8 := Nat.pow_le_pow_right (by omega) hw
  have h3 : (2 : Nat) ^ 8 = 256 := by decide
  rw [BitVec.toNat_and, BitVec.ofInt_natCast, BitVec.ofInt_natCast, BitVec.toNat_ofNat, BitVec.toNat_ofNat, Nat.mod_eq_of_lt (by omega), Nat.mod_eq_of_lt (by omega), Nat.and_two_pow_sub_one_eq_mod]
theorem andU8 (a w : Nat) (ha : a < 256) (hw : w ≤ 8) : bitsI .and .u8 (a : Int) ((2 ^ w - 1 : Nat) : Int) = ((a % 2 ^ w : Nat) : Int) := by
  have := andLow (k := .u8) (.inr rfl) a w ha hw
  show IntKind.u8.wrap _ = _
  have h2 := Nat.mod_le a (2 ^ w)
  rw [this, IntKind.wrap_u8]
  generalize a % 2 ^ w = x at *
  omega
theorem orLow {k : IntKind} (w a b : Nat) (hb : b < 2 ^ w) (hs : 2 ^ w * a + b < 2 ^ k.bits) : (BitVec.ofInt k.bits ((2 ^ w * a : Nat) : Int) ||| BitVec.ofInt k.bits (b : Int) : BitVec k.bits).toNat = 2 ^ w * a + b := by
  rw [BitVec.toNat_or, BitVec.ofInt_natCast, BitVec.ofInt_natCast, BitVec.toNat_ofNat, BitVec.toNat_ofNat, Nat.mod_eq_of_lt (by omega), Nat.mod_eq_of_lt (by omega), ← Nat.two_pow_add_eq_or_of_lt hb]
theorem or64b (a b : Nat) (hb : b < 256) (ha : a < 18014398509481984) : bitsI .or .i64 ((a * 256 : Nat) : Int) (b : Int) = ((a * 256 + b : Nat) : Int) := by
  have := orLow (k := .i64) 8 a b (by omega) (by show 2 ^ 8 * a + b < 2 ^ 64; omega)
  unfold bitsI
  dsimp only
  rw [show a * 256 = 2 ^ 8 * a by omega, this, IntKind.wrap_i64]
  omega
theorem orU8 (w f n : Nat) (hf : f % 2 ^ w = 0) (hn : n < 2 ^ w) (hs : f + n < 256) : bitsI .or .u8 (f : Int) (n : Int) = ((f + n : Nat) : Int) := by
  have hd : 2 ^ w * (f / 2 ^ w) = f := by have := Nat.div_add_mod f (2 ^ w); omega
  have := orLow (k := .u8) w (f / 2 ^ w) n hn (by rw [hd]; show f + n < 2 ^ 8; omega)
  rw [hd] at this
  show IntKind.u8.wrap _ = _
  rw [this, IntKind.wrap_u8]
  omega
/-- bytes behind a number -/
def numG (a : Nat) (l : List UInt8) : Nat := l.foldl (fun a c => a * 256 + c.toNat) a
theorem numG_snoc (a : Nat) (l : List UInt8) (c : UInt8) : numG a (l ++ [c]) = numG a l * 256 + c.toNat := by unfold numG; rw [List.foldl_append]; rfl
theorem numG_cons (a : Nat) (l : List UInt8) (c : UInt8) : numG a (c :: l) = numG (a * 256 + c.toNat) l := rfl
theorem numG_num (l : List UInt8) : numG 0 l = numB l := rfl
theorem numG_add : ∀ (l : List UInt8) (a : Nat), numG a l = a * 256 ^ l.length + numB l
  | [], a => by simp [numG, numB]
  | c :: l, a => by
    rw [numG_cons, numG_add l, show numB (c :: l) = numG (0 * 256 + c.toNat) l from rfl, numG_add l, List.length_cons, Nat.pow_succ]
    simp only [Nat.zero_mul, Nat.zero_add, Nat.add_mul, Nat.add_assoc]
    rw [Nat.mul_assoc, Nat.mul_comm 256]
theorem numG_lt (a : Nat) (l : List UInt8) : numG a l < (a + 1) * 256 ^ l.length := by
  rw [numG_add, Nat.add_mul]
  have := numB_lt l.length l rfl
  omega
theorem shl8 (n : Nat) (h : n < 18014398509481984) : IntKind.i64.wrap ((n : Int) * 2 ^ min (8 : Int).toNat IntKind.i64.bits) = ((n * 256 : Nat) : Int) := by
  rw [show (2 : Int) ^ min (8 : Int).toNat IntKind.i64.bits = 256 from rfl, IntKind.wrap_i64]
  omega
theorem andNot3 : ∀ c : Fin 256, bitsI .andNot .u8 ((c.val : Nat) : Int) 3 = ((c.val - c.val % 4 : Nat) : Int) := by decide
end Go.Proofs.Ytfdomanbdfekhaa

/-
  The reference's number. No condition.
-/
set_option linter.unusedVariables false
set_option linter.unusedSimpArgs false
set_option linter.unusedVariables false
namespace Go.Proofs.Ytfdomanbdfekhaa
set_option maxRecDepth 100000
attribute [local irreducible] Run RunL QStep GStep Fn Less PL FnM

theorem number_fn (l : List UInt8) (hl : l.length ≤ 1000000000000000) : Fn Try.prog 118 [.lit (.string (strB l))] (.lit (.int .u64 (numV l))) := by
  refine fn_of_run (by kernel_rfl) Try.func118 rfl (by kernel_rfl) ?_
  (repeat' first | (refine go_ ?_; ((repeat' first | exact True.intro | refine Two.mk ?_ ?_); all_goals intros)) | fail "")
  refine r_for (fun k : Nat => ⟨[(0, .lit (.string (strB l))), (3, .lit (.int .u64 (numV (l.take k)))), (4, .lit (.int .i64 k))], [], 0, Try.f118.ntmps⟩)
    (fun k => k ≤ l.length) (fun k => l.length - k) 0 (by omega) less_to ?_
  intro k hk
  by_cases hkn : k < l.length
  · have e : numV (l.take (k + 1)) = IntKind.u64.wrap (IntKind.u64.wrap (numV (l.take k) * 256) + (l.getD k default).toNat) := by rw [take_snoc hkn, numV_snoc]
    have hc := (l.getD k default).toNat_lt
    (repeat' first | (refine go_ ?_; ((repeat' first | exact True.intro | refine Two.mk ?_ ?_); all_goals intros)) | fail "")
    all_goals (refine ⟨k + 1, ?_, ?_, ?_⟩; rotate_left 2; (exact lessA_); (focus (omega)); (focus (omega)))
  · (repeat' first | (refine go_ ?_; ((repeat' first | exact True.intro | refine Two.mk ?_ ?_); all_goals intros)) | fail "")
    all_goals (refine ends_ (hr := ?_); rw [List.take_of_length_le (by omega)])
end Go.Proofs.Ytfdomanbdfekhaa

/-
  varint.Decode and the reference's VarOf: one answer. No condition.
-/
set_option linter.unusedVariables false
set_option linter.unusedSimpArgs false
set_option linter.unusedVariables false
namespace Go.Proofs.Ytfdomanbdfekhaa
set_option maxRecDepth 100000
attribute [local irreducible] Run RunL QStep GStep Fn Less PL FnM

/-- how many bytes -/
def varW (l : List UInt8) : Nat := 2 ^ ((l.getD 0 default).toNat / 64)
/-- P1.3 -/
def varD (l : List UInt8) : Nat × Nat × Int :=
  if l.length = 0 then (0, 0, 4) else if l.length < varW l then (0, 0, 4) else (numG ((l.getD 0 default).toNat % 64) ((l.take (varW l)).drop 1), varW l, 0)
theorem varW_cases (l : List UInt8) : (varW l = 1 ∧ (l.getD 0 default).toNat / 64 = 0) ∨ (varW l = 2 ∧ (l.getD 0 default).toNat / 64 = 1) ∨ (varW l = 4 ∧ (l.getD 0 default).toNat / 64 = 2) ∨ (varW l = 8 ∧ (l.getD 0 default).toNat / 64 = 3) := by
  have := (l.getD 0 default).toNat_lt
  unfold varW
  rcases (show (l.getD 0 default).toNat / 64 = 0 ∨ (l.getD 0 default).toNat / 64 = 1 ∨ (l.getD 0 default).toNat / 64 = 2 ∨ (l.getD 0 default).toNat / 64 = 3 by omega) with h | h | h | h <;> rw [h] <;> decide
theorem varD_ok {l : List UInt8} {n k : Nat} {e : Int} (h : varD l = (n, k, e)) : (e = 0 ∧ 1 ≤ k ∧ k ≤ 8 ∧ k ≤ l.length ∧ n ≤ 4611686018427387903) ∨ (e = 4 ∧ n = 0 ∧ k = 0) := by
  unfold varD at h
  split at h
  · injection h with h1 h; injection h with h2 h3; exact .inr ⟨h3.symm, h1.symm, h2.symm⟩
  · split at h
    · injection h with h1 h; injection h with h2 h3; exact .inr ⟨h3.symm, h1.symm, h2.symm⟩
    · injection h with h1 h; injection h with h2 h3
      subst h1 h2 h3
      have hw := varW_cases l
      have hb := numG_lt ((l.getD 0 default).toNat % 64) ((l.take (varW l)).drop 1)
      rw [List.length_drop, List.length_take, Nat.min_eq_left (by omega)] at hb
      have h64 : (l.getD 0 default).toNat % 64 + 1 ≤ 64 := by omega
      have hp : 256 ^ (varW l - 1) ≤ 256 ^ 7 := Nat.pow_le_pow_right (by omega) (by omega)
      have h7 : (256 : Nat) ^ 7 = 72057594037927936 := by decide
      have := Nat.mul_le_mul h64 hp
      refine .inl ⟨rfl, by omega, by omega, by omega, by omega⟩
theorem varW_shift (l : List UInt8) : IntKind.i64.wrap (1 * 2 ^ min (((l.getD 0 default).toNat : Int).fdiv (2 ^ min (6 : Int).toNat IntKind.u8.bits)).toNat IntKind.i64.bits) = (varW l : Int) := by
  rw [show min (6 : Int).toNat IntKind.u8.bits = 6 from rfl, fdiv_two_pow]
  unfold varW
  rw [show (2 : Nat) ^ 6 = 64 by decide]
  have := (l.getD 0 default).toNat_lt
  rcases (show (l.getD 0 default).toNat / 64 = 0 ∨ (l.getD 0 default).toNat / 64 = 1 ∨ (l.getD 0 default).toNat / 64 = 2 ∨ (l.getD 0 default).toNat / 64 = 3 by omega) with h | h | h | h <;> rw [h] <;> decide
theorem numB_head {l : List UInt8} {W : Nat} (hW : 1 ≤ W) (h : W ≤ l.length) : numB (l.take W) = (l.getD 0 default).toNat * 256 ^ (W - 1) + numB ((l.take W).drop 1) := by
  have h0 : 0 < (l.take W).length := by rw [List.length_take]; omega
  have e := drop_cons h0
  rw [List.drop_zero] at e
  have e2 : (l.take W).getD 0 default = l.getD 0 default := by
    rw [List.getD_eq_getElem?_getD, List.getElem?_take, if_pos (by omega), ← List.getD_eq_getElem?_getD]
  rw [e2] at e
  have hl : ((l.take W).drop 1).length = W - 1 := by rw [List.length_drop, List.length_take]; omega
  generalize (l.take W).drop 1 = r at *
  rw [e, show numB (l.getD 0 default :: r) = numG (0 * 256 + (l.getD 0 default).toNat) r from rfl, numG_add, hl]
  simp
theorem mod_head (b m P : Nat) (hm : m < P) : (b * P + m) % (64 * P) = b % 64 * P + m := by
  have h1 : b * P + m = b / 64 * (64 * P) + (b % 64 * P + m) := by
    have := Nat.div_add_mod b 64
    calc b * P + m = (64 * (b / 64) + b % 64) * P + m := by rw [this]
      _ = b / 64 * (64 * P) + (b % 64 * P + m) := by rw [Nat.add_mul, Nat.mul_comm 64, Nat.mul_assoc]; omega
  have h2 : b % 64 * P + m < 64 * P := by
    have : b % 64 + 1 ≤ 64 := by omega
    have := Nat.mul_le_mul_right P this
    rw [Nat.add_mul] at this
    omega
  rw [h1, Nat.mul_comm (b / 64), Nat.mul_add_mod, Nat.mod_eq_of_lt h2]
theorem varOf_val {l : List UInt8} (h : ¬ l.length < varW l) : numB (l.take (varW l)) % (64 * 256 ^ (varW l - 1)) = numG ((l.getD 0 default).toNat % 64) ((l.take (varW l)).drop 1) := by
  have hw := varW_cases l
  have hl : ((l.take (varW l)).drop 1).length = varW l - 1 := by rw [List.length_drop, List.length_take]; omega
  have := numB_lt _ _ hl
  rw [numB_head (by omega) (by omega), mod_head _ _ _ this, numG_add, hl]
theorem tab4 (q : Nat) (h : q < 4) {l : List (List V)} (hl : l = [[.lit (.int .i64 1)], [.lit (.int .i64 2)], [.lit (.int .i64 4)], [.lit (.int .i64 8)]]) : eAt l q = [.lit (.int .i64 ((2 ^ q : Nat) : Int))] := by
  subst hl
  rcases (show q = 0 ∨ q = 1 ∨ q = 2 ∨ q = 3 by omega) with rfl | rfl | rfl | rfl <;> rfl
end Go.Proofs.Ytfdomanbdfekhaa

/-
  head.Decode and the reference's HeadOf: one answer. No condition.
-/
set_option linter.unusedVariables false
set_option linter.unusedSimpArgs false
set_option linter.unusedVariables false
namespace Go.Proofs.Ytfdomanbdfekhaa
set_option maxRecDepth 100000
attribute [local irreducible] Run RunL QStep GStep Fn Less PL FnM

def hdErr (e : Int) : DHead × Int × Int := (⟨0, 0, 0, [], 0, 0⟩, 0, e)
def encHd (r : DHead × Int × Int) : V := .tup [.agg (encHead r.1), .lit (.int .i64 r.2.1), .lit (.int .i64 r.2.2)]
/-- the kind, and how many bytes the number has -/
def hdK (c : Nat) : Option (Int × Nat) := if 64 ≤ c ∧ c < 68 then some (2, c - 63) else if 192 ≤ c ∧ c < 196 then some (0, c - 191) else if c = 240 then some (1, 0) else none
def hdFin (K : Int) (T F : Nat) (tok : List UInt8) (S u : Nat) (l : List UInt8) : DHead × Int × Int :=
  if l.length < u + S then hdErr 4 else (⟨K, T, F, tok, ((numG 0 ((l.take (u + S)).drop u) : Nat) : Int), S⟩, ((u + S : Nat) : Int), 0)
def hdLong (K : Int) (S : Nat) (l : List UInt8) (v : Nat × Nat × Int) : DHead × Int × Int :=
  if ¬ v.2.2 = 0 then hdErr v.2.2 else if 120 < v.1 then hdErr 1 else if l.length < 3 + v.2.1 + v.1 then hdErr 4
  else hdFin K (l.getD 1 default).toNat (l.getD 2 default).toNat ((l.take (3 + v.2.1 + v.1)).drop (3 + v.2.1)) S (3 + v.2.1 + v.1) l
def hdR (K : Int) (S : Nat) (l : List UInt8) : DHead × Int × Int :=
  if K = 2 then (if l.length < 2 then hdErr 4 else hdFin 2 (l.getD 1 default).toNat 0 [] S 2 l)
  else if l.length < 3 then hdErr 4 else hdLong K S l (varD (l.drop 3))
/-- P5.3 -/
def hdD (l : List UInt8) : DHead × Int × Int :=
  if l.length = 0 then hdErr 4 else match hdK (l.getD 0 default).toNat with
    | none => hdErr 2
    | some (K, S) => hdR K S l
theorem hdK_cases (c : Nat) : (hdK c = some (2, c - 63) ∧ 64 ≤ c ∧ c < 68) ∨ (hdK c = some (0, c - 191) ∧ 192 ≤ c ∧ c < 196) ∨ (hdK c = some (1, 0) ∧ c = 240) ∨ (hdK c = none ∧ ¬ (64 ≤ c ∧ c < 68) ∧ ¬ (192 ≤ c ∧ c < 196) ∧ ¬ c = 240) := by
  unfold hdK
  split
  · exact .inl ⟨rfl, by assumption⟩
  · split
    · exact .inr (.inl ⟨rfl, by assumption⟩)
    · split
      · exact .inr (.inr (.inl ⟨rfl, by assumption⟩))
      · exact .inr (.inr (.inr ⟨rfl, by assumption, by assumption, by assumption⟩))
theorem hdD_none {l : List UInt8} (h0 : ¬ l.length = 0) (h : hdK (l.getD 0 default).toNat = none) : hdD l = hdErr 2 := by unfold hdD; rw [if_neg h0, h]
theorem hdD_some {l : List UInt8} {K : Int} {S : Nat} (h0 : ¬ l.length = 0) (h : hdK (l.getD 0 default).toNat = some (K, S)) : hdD l = hdR K S l := by unfold hdD; rw [if_neg h0, h]
theorem andNotU8 (c : Nat) (h : c < 256) : bitsI .andNot .u8 (c : Int) 3 = ((c - c % 4 : Nat) : Int) := andNot3 ⟨c, h⟩
end Go.Proofs.Ytfdomanbdfekhaa

/-
  The reference's HeadOf. No condition.
-/
set_option linter.unusedVariables false
set_option linter.unusedSimpArgs false
set_option linter.unusedVariables false
namespace Go.Proofs.Ytfdomanbdfekhaa
set_option maxRecDepth 100000
attribute [local irreducible] Run RunL QStep GStep Fn Less PL FnM

theorem hd_num {r : List UInt8} {S : Nat} (h : r.length = S) (hS : S ≤ 4) : numG 0 r < 4294967296 := by
  have hg := numG_lt 0 r
  have hp : (0 + 1) * 256 ^ r.length ≤ 1 * 256 ^ 4 := Nat.mul_le_mul (by omega) (Nat.pow_le_pow_right (by omega) (by omega))
  have h7 : 1 * (256 : Nat) ^ 4 = 4294967296 := by decide
  omega
theorem num_fn (r : List UInt8) (h : r.length ≤ 8) : Fn Try.prog 118 [.lit (.string (strB r))] (.lit (.int .u64 ((numG 0 r : Nat) : Int))) := by
  have := number_fn r (by omega)
  rw [numV_num _ _ rfl h] at this
  exact this
end Go.Proofs.Ytfdomanbdfekhaa

/-
  Locking: the words of a key, and a tag: plain lemmas. No condition.
-/
set_option linter.unusedVariables false
set_option linter.unusedSimpArgs false
set_option linter.unusedVariables false
namespace Go.Proofs.Ytfdomanbdfekhaa
set_option maxRecDepth 100000
attribute [local irreducible] Run RunL QStep GStep Fn Less PL FnM

def startV (key n : Int) : Int := mixV (bitsI .xor .u64 key (mixV (IntKind.u64.wrap n)))
/-- the word beside byte i -/
def wordV (st : Int) (q : Nat) : Nat := (mixV (IntKind.u64.wrap (st + (q : Int)))).toNat
def ks (st : Int) (i : Nat) : UInt8 := UInt8.ofNat (wordV st (i / 8) / 256 ^ (i % 8))
def turnG (st : Int) : Nat → List UInt8 → List UInt8
  | _, [] => []
  | i, c :: r => (c ^^^ ks st i) :: turnG st (i + 1) r
theorem turnG_length (st : Int) : ∀ (l : List UInt8) (i : Nat), (turnG st i l).length = l.length
  | [], _ => rfl
  | c :: r, i => by simp [turnG, turnG_length st r (i + 1)]
theorem turnG_get (st : Int) : ∀ (l : List UInt8) (i k : Nat), k < l.length → (turnG st i l).getD k default = l.getD k default ^^^ ks st (i + k)
  | [], _, _, h => by simp at h
  | c :: r, i, 0, _ => rfl
  | c :: r, i, k + 1, h => by
    have := turnG_get st r (i + 1) k (by simpa using h)
    simp only [turnG, List.getD_cons_succ, this]
    rw [show i + 1 + k = i + (k + 1) by omega]
theorem u8_xor_twice (a b : UInt8) : a ^^^ b ^^^ b = a := by
  apply UInt8.toNat_inj.1
  rw [UInt8.toNat_xor, UInt8.toNat_xor, Nat.xor_assoc, Nat.xor_self, Nat.xor_zero]
theorem turnG_twice (st : Int) : ∀ (l : List UInt8) (i : Nat), turnG st i (turnG st i l) = l
  | [], _ => rfl
  | c :: r, i => by simp only [turnG, u8_xor_twice, turnG_twice st r (i + 1)]
def turnB (key n : Int) (l : List UInt8) : List UInt8 := turnG (startV key n) 0 l
theorem turnB_length (key n : Int) (l : List UInt8) : (turnB key n l).length = l.length := turnG_length _ _ _
theorem turnB_twice (key n : Int) (l : List UInt8) : turnB key n (turnB key n l) = l := turnG_twice _ _ _
theorem xor8 (a b : UInt8) : bitsI .xor .u8 (a.toNat : Int) (b.toNat : Int) = ((a ^^^ b).toNat : Int) := by
  have h1 := a.toNat_lt
  have h2 := b.toNat_lt
  unfold bitsI
  show IntKind.u8.wrap ((((BitVec.ofInt 8 (a.toNat : Int) ^^^ BitVec.ofInt 8 (b.toNat : Int)) : BitVec 8).toNat : Nat) : Int) = _
  rw [BitVec.toNat_xor, BitVec.ofInt_natCast, BitVec.ofInt_natCast, BitVec.toNat_ofNat, BitVec.toNat_ofNat, Nat.mod_eq_of_lt (by omega), Nat.mod_eq_of_lt (by omega), ← UInt8.toNat_xor, IntKind.wrap_u8]
  have := (a ^^^ b).toNat_lt
  omega
theorem ks_val (st : Int) (k : Nat) : IntKind.u8.wrap ((mixV (IntKind.u64.wrap (st + (k : Int) / 8))).fdiv (2 ^ min (8 * ((k : Int) % 8)).toNat IntKind.u64.bits)) = ((ks st k).toNat : Int) := by
  have h1 : min (8 * ((k : Int) % 8)).toNat IntKind.u64.bits = 8 * (k % 8) := by show min (8 * ((k : Int) % 8)).toNat 64 = _; omega
  have h2 : (k : Int) / 8 = ((k / 8 : Nat) : Int) := by omega
  have h3 := mixV_range (IntKind.u64.wrap (st + ((k / 8 : Nat) : Int)))
  unfold ks wordV
  rw [h1, h2]
  generalize mixV (IntKind.u64.wrap (st + ((k / 8 : Nat) : Int))) = x at *
  obtain ⟨m, rfl⟩ := Int.eq_ofNat_of_zero_le h3.1
  rw [fdiv_two_pow, Int.toNat_natCast, Nat.pow_mul, u8_val]
theorem turn_val (st : Int) (k : Nat) (c : UInt8) : bitsI .xor .u8 (c.toNat : Int) (IntKind.u8.wrap ((mixV (IntKind.u64.wrap (st + (k : Int) / 8))).fdiv (2 ^ min (8 * ((k : Int) % 8)).toNat IntKind.u64.bits))) = ((c ^^^ ks st k).toNat : Int) := by
  rw [ks_val, xor8]
/-- half turned -/
def mixL (st : Int) (l : List UInt8) (k : Nat) : List UInt8 := (turnG st 0 l).take k ++ l.drop k
theorem mixL_length {st : Int} {l : List UInt8} {k : Nat} (h : k ≤ l.length) : (mixL st l k).length = l.length := by
  unfold mixL; rw [List.length_append, List.length_take, List.length_drop, turnG_length]; omega
theorem mixL0 (st : Int) (l : List UInt8) : mixL st l 0 = l := by unfold mixL; simp
theorem mixL_all (st : Int) (l : List UInt8) : mixL st l l.length = turnG st 0 l := by
  unfold mixL; rw [List.take_of_length_le (by rw [turnG_length]; exact Nat.le_refl _), List.drop_of_length_le (Nat.le_refl _), List.append_nil]
theorem mixL_get {st : Int} {l : List UInt8} {k : Nat} (h : k < l.length) : (mixL st l k).getD k default = l.getD k default := by
  unfold mixL
  rw [List.getD_eq_getElem?_getD, List.getElem?_append_right (by rw [List.length_take, turnG_length]; omega), List.length_take, turnG_length, Nat.min_eq_left (by omega), Nat.sub_self, List.getElem?_drop, Nat.add_zero, ← List.getD_eq_getElem?_getD]
theorem mixL_set {st : Int} {l : List UInt8} {k : Nat} {v : Int} (h : k < l.length) (hv : v = ((l.getD k default ^^^ ks st k).toNat : Int)) :
    ((mixL st l k).map encB).set k (setAt 0 [.lit (.int .u8 v)] (eAt ((mixL st l k).map encB) k)) = (mixL st l (k + 1)).map encB := by
  subst hv
  have hl := mixL_length (st := st) (Nat.le_of_lt h)
  rw [setAt1 (by rw [eAt_map encB (by omega)]; rfl)]
  have hg := turnG_get st l 0 k h
  rw [Nat.zero_add] at hg
  unfold mixL
  rw [List.map_append, List.set_append_right (h := by rw [List.length_map, List.length_take, turnG_length]; omega), List.length_map, List.length_take, turnG_length, Nat.min_eq_left (by omega), Nat.sub_self, drop_cons h, take_snoc (by rw [turnG_length]; exact h), hg]
  simp only [List.map_append, List.map_cons, List.map_nil, List.set_cons_zero, List.append_assoc, List.cons_append, List.nil_append]
  rfl
/-- a part hashed -/
def hashB (h : Int) (b : List UInt8) : Int := b.foldl (fun h c => mixV (bitsI .xor .u64 h (c.toNat : Int))) h
def tagH (h : Int) (b : List UInt8) : Int := mixV (bitsI .xor .u64 (hashB h b) ((b.length * 256 : Nat) : Int))
def tagV (key n : Int) (ps : List (List UInt8)) : Int := ps.foldl tagH (bitsI .xor .u64 (mixV key) (IntKind.u64.wrap n))
theorem hashB_snoc (h : Int) (l : List UInt8) (c : UInt8) : hashB h (l ++ [c]) = mixV (bitsI .xor .u64 (hashB h l) (c.toNat : Int)) := by unfold hashB; rw [List.foldl_append]; rfl
theorem tagV_range (key n : Int) (ps : List (List UInt8)) : 0 ≤ tagV key n ps ∧ tagV key n ps < 18446744073709551616 := by
  rcases List.eq_nil_or_concat ps with rfl | ⟨qs, p, rfl⟩
  · show 0 ≤ bitsI .xor .u64 (mixV key) (IntKind.u64.wrap n) ∧ _
    exact bitsI_range _ _ _
  · unfold tagV
    rw [List.concat_eq_append, List.foldl_append]
    exact mixV_range _
def tagB (key n : Int) (ps : List (List UInt8)) : List UInt8 := bigB (tagV key n ps).toNat 8
theorem tagB_length (key n : Int) (ps : List (List UInt8)) : (tagB key n ps).length = 8 := bigB_length _ _
/-- P6.3 -/
def sealB (key n : Int) (h t : List UInt8) : List UInt8 := turnB key n t ++ tagB key n [h, t]
end Go.Proofs.Ytfdomanbdfekhaa
