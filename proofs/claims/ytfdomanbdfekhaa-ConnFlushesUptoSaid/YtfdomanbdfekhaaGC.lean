/-
  SEVERAL TEXTS IN ONE: each with its own comment.
-/
import Derived.Test.YtfdomanbdfekhaaGB
import Derived.Test.YtfdomanbdfekhaaGA
import Derived.Test.YtfdomanbdfekhaaProg
import Derived.Test.YtfdomanbdfekhaaAbsB
/-
  Plain lemmas on lists.
-/
set_option linter.unusedVariables false
set_option linter.unusedSimpArgs false
set_option linter.unusedVariables false
namespace Go.Proofs.Ytfdomanbdfekhaa
theorem drop_cons {α : Type} [Inhabited α] {l : List α} {k : Nat} (h : k < l.length) : l.drop k = l.getD k default :: l.drop (k + 1) := by
  rw [List.drop_eq_getElem_cons h, List.getD_eq_getElem?_getD, List.getElem?_eq_getElem h]; rfl
theorem getD_mem {α : Type} [Inhabited α] {l : List α} {k : Nat} (h : k < l.length) : l.getD k default ∈ l := by
  rw [List.getD_eq_getElem?_getD, List.getElem?_eq_getElem h]; exact List.getElem_mem h
theorem take_snoc {α : Type} [Inhabited α] {l : List α} {k : Nat} (h : k < l.length) : l.take (k + 1) = l.take k ++ [l.getD k default] := by
  rw [List.take_succ_eq_append_getElem h, List.getD_eq_getElem?_getD, List.getElem?_eq_getElem h]; rfl
theorem take_same {α : Type} [Inhabited α] {l m : List α} {k : Nat} (h : k < l.length) (h2 : k < m.length) (ht : l.take k = m.take k) (he : l.getD k default = m.getD k default) : l.take (k + 1) = m.take (k + 1) := by
  rw [take_snoc h, take_snoc h2, ht, he]
theorem ne_getD {α : Type} [Inhabited α] {l m : List α} {k : Nat} (h : l.getD k default ≠ m.getD k default) : l ≠ m := fun e => h (by rw [e])
theorem take_all {α : Type} {l m : List α} {k : Nat} (h : k = l.length) (h2 : k = m.length) (ht : l.take k = m.take k) : l = m := by
  rw [List.take_of_length_le (by omega), List.take_of_length_le (by omega)] at ht; exact ht
/-- two lists gone through together, as long as all agrees -/
def Along {α : Type} (l m : List α) (same : Prop) (k : Nat) (ok : Bool) : Prop := k ≤ l.length ∧ (ok = true → l.length = m.length ∧ l.take k = m.take k) ∧ (ok = false → ¬ same)
theorem mem_take_snoc {α : Type} [Inhabited α] {l : List α} {k : Nat} {p : α → Prop} (h : k < l.length) (ht : ∀ x ∈ l.take k, p x) (hk : p (l.getD k default)) : ∀ x ∈ l.take (k + 1), p x := by
  intro x hx
  rw [take_snoc h, List.mem_append, List.mem_singleton] at hx
  rcases hx with hx | rfl
  · exact ht x hx
  · exact hk
def AllTo (Q : Nat → Prop) (k : Nat) : Prop := ∀ i, i < k → Q i
theorem allTo0 {Q : Nat → Prop} : AllTo Q 0 := fun i h => by omega
theorem allTo_succ {Q : Nat → Prop} {k : Nat} : AllTo Q (k + 1) ↔ AllTo Q k ∧ Q k :=
  ⟨fun h => ⟨fun i hi => h i (by omega), h k (by omega)⟩, fun h i hi => by
    by_cases e : i = k
    · subst e; exact h.2
    · exact h.1 i (by omega)⟩
end Go.Proofs.Ytfdomanbdfekhaa

/-
  The reference's upTo. No condition.
-/
set_option linter.unusedVariables false
set_option linter.unusedSimpArgs false
set_option linter.unusedVariables false
namespace Go.Proofs.Ytfdomanbdfekhaa
set_option maxRecDepth 100000
attribute [local irreducible] Run RunL QStep GStep Fn Less PL

theorem upTo_fn (a b : Int) : Fn Try.prog 40 [.lit (.int .i64 a), .lit (.int .i64 b)] (.lit (.bool (decide (0 ≤ a ∧ a ≤ b)))) := by
  refine fn_of_run (by kernel_rfl) Try.func40 rfl (by kernel_rfl) ?_
  (repeat' first | (refine go_ ?_; ((repeat' first | exact True.intro | refine Two.mk ?_ ?_); all_goals intros)) | fail "")
  all_goals refine ends_ (hr := ?_)
  all_goals first
    | rw [decide_eq_true (by omega)]
    | rw [decide_eq_false (by omega)]
end Go.Proofs.Ytfdomanbdfekhaa

/-
  Numbers in bytes: plain lemmas. No condition.
-/
set_option linter.unusedVariables false
set_option linter.unusedSimpArgs false
set_option linter.unusedVariables false
namespace Go.Proofs.Ytfdomanbdfekhaa
set_option maxRecDepth 100000
attribute [local irreducible] Run RunL QStep GStep Fn Less PL FnM

/-- n in k bytes, the highest one first -/
def bigB (n : Nat) : Nat → List UInt8
  | 0 => []
  | k + 1 => UInt8.ofNat (n / 256 ^ k) :: bigB n k
theorem bigB_length (n : Nat) : ∀ k, (bigB n k).length = k
  | 0 => rfl
  | k + 1 => by simp [bigB, bigB_length n k]
theorem bigB_get (n : Nat) : ∀ k j, j < k → (bigB n k).getD j default = UInt8.ofNat (n / 256 ^ (k - 1 - j))
  | 0, j, h => by omega
  | k + 1, 0, h => by simp [bigB]
  | k + 1, j + 1, h => by
    have := bigB_get n k j (by omega)
    simp only [bigB, List.getD_cons_succ, this]
    rw [show k + 1 - 1 - (j + 1) = k - 1 - j by omega]
theorem u8_val (m : Nat) : ((UInt8.ofNat m).toNat : Int) = IntKind.u8.wrap (m : Int) := by
  rw [IntKind.wrap_u8]
  simp
theorem encB_ofNat (m : Nat) : encB (UInt8.ofNat m) = [.lit (.int .u8 (IntKind.u8.wrap (m : Int)))] := by unfold encB; rw [u8_val]
/-- what is filled so far -/
def fillB (l : List UInt8) (n k : Nat) : List (List V) := (l.take k).map encB ++ List.replicate (n - k) [.lit (.int .u8 0)]
theorem setAt1 {v : V} {c : List V} (h : c.length = 1) : setAt 0 [v] c = [v] := by
  match c, h with
  | [x], _ => rfl
theorem fdiv_two_pow (n k : Nat) : (n : Int).fdiv (2 ^ k) = ((n / 2 ^ k : Nat) : Int) := by
  rw [Int.fdiv_eq_ediv_of_nonneg _ (by exact_mod_cast Nat.zero_le _)]
  push_cast
  rfl

theorem u8_big (n k : Nat) : some [[V.lit (.int .u8 (IntKind.u8.wrap ((n / 256 ^ k : Nat) : Int)))]] = some ([UInt8.ofNat (n / 256 ^ k)].map encB) := by
  rw [List.map_cons, List.map_nil, encB_ofNat]
theorem shr8 (n k : Nat) : ((n / 256 ^ k : Nat) : Int).fdiv (2 ^ min (8 : Int).toNat IntKind.u64.bits) = ((n / 256 ^ (k + 1) : Nat) : Int) := by
  rw [show min (8 : Int).toNat IntKind.u64.bits = 8 from rfl, fdiv_two_pow, Nat.div_div_eq_div_mul, show (256 : Nat) ^ (k + 1) = 256 ^ k * 2 ^ 8 from by rw [Nat.pow_succ]]
/-- as the machine adds -/
def numV (l : List UInt8) : Int := l.foldl (fun a c => IntKind.u64.wrap (IntKind.u64.wrap (a * 256) + c.toNat)) 0
/-- a number in bytes -/
def numB (l : List UInt8) : Nat := l.foldl (fun a c => a * 256 + c.toNat) 0
end Go.Proofs.Ytfdomanbdfekhaa

/-
  The reference's big. No condition.
-/
set_option linter.unusedVariables false
set_option linter.unusedSimpArgs false
set_option linter.unusedVariables false
namespace Go.Proofs.Ytfdomanbdfekhaa
set_option maxRecDepth 100000
attribute [local irreducible] Run RunL QStep GStep Fn Less PL FnM

theorem big_fn (n size : Nat) (hs : size ≤ 100) : Fn Try.prog 74 [.lit (.int .u64 n), .lit (.int .i64 size)] (.lit (.string (strB (bigB n size)))) := by
  refine fn_of_run (by kernel_rfl) Try.func74 rfl (by kernel_rfl) ?_
  (repeat' first | (refine go_ ?_; ((repeat' first | exact True.intro | refine Two.mk ?_ ?_); all_goals intros)) | fail "")
  refine r_for (fun k : Nat => ⟨[(0, .lit (.int .u64 ((n / 256 ^ k : Nat) : Int))), (5, .lit (.string (strB (bigB n k)))), (6, .lit (.int .i64 size)), (7, .lit (.int .i64 k))], [], 0, Try.f74.ntmps⟩)
    (fun k => k ≤ size) (fun k => size - k) 0 (by omega) (by (exact lessA_)) ?_
  intro k hk
  have hl := bigB_length n k
  have e := shr8 n k
  by_cases hkn : k < size
  · (repeat' first | (refine s_bstr (l := [UInt8.ofNat (n / 256 ^ k)]) (hv := ?_) (h := ?_); (focus exact u8_big n k)) | (refine s_sadd (r := bigB n (k + 1)) ?_ ?_ (h := ?_); (focus (first | rfl | (simp; done))); (focus (first | omega | (simp only [List.length_append, List.length_map, List.length_cons, List.length_nil, List.length_take, List.length_drop]; omega)))) | (refine p_sadd (r := bigB n (k + 1)) ?_ ?_ (h := ?_); (focus (first | rfl | (simp; done))); (focus (first | omega | (simp only [List.length_append, List.length_map, List.length_cons, List.length_nil, List.length_take, List.length_drop]; omega)))) | (refine goI_ ?_; ((repeat' first | exact True.intro | refine Two.mk ?_ ?_); all_goals intros)) | refine s_i (h := ?_) | refine s_i (hq := q_index_ro rfl rfl rfl (by first | exact lit0 | exact lit1 | exact lit2 | exact lit3 | rfl) (by simp only [List.length_cons, List.length_nil]; omega) rfl rfl rfl rfl) (h := ?_) | refine p_i (h := ?_) | refine p_ih (h := ?_) | refine s_lit (h := ?_) | refine p_lit (h := ?_) | refine p_lit0 (h := ?_) | refine s_lit0 (h := ?_) | refine s_ixa (h := ?_) | refine s_insert (h := ?_) | (refine s_sadd rfl ?_ (h := ?_); (focus (first | omega | (simp only [List.length_append, List.length_map, List.length_cons, List.length_nil, List.length_take, List.length_drop]; omega)))) | (refine p_sadd rfl ?_ (h := ?_); (focus (first | omega | (simp only [List.length_append, List.length_map, List.length_cons, List.length_nil, List.length_take, List.length_drop]; omega)))) | fail "")
    all_goals (rw [e]; (refine ⟨k + 1, ?_, ?_, ?_⟩; rotate_left 2; (exact lessA_); (focus (omega)); (focus (omega))))
  · have : k = size := by omega
    subst this
    (repeat' first | (refine go_ ?_; ((repeat' first | exact True.intro | refine Two.mk ?_ ?_); all_goals intros)) | fail "")
    all_goals exact ends_ (hr := rfl)

theorem big8_fn (n : Nat) : Fn Try.prog 74 [.lit (.int .u64 n), .lit (.int .i64 8)] (.lit (.string (strB (bigB n 8)))) := big_fn n 8 (by omega)
end Go.Proofs.Ytfdomanbdfekhaa

/-
  Bits of numbers, and numbers out of bytes: plain lemmas. No condition.
-/
set_option linter.unusedVariables false
set_option linter.unusedSimpArgs false
set_option linter.unusedVariables false
namespace Go.Proofs.Ytfdomanbdfekhaa
set_option maxRecDepth 100000
attribute [local irreducible] Run RunL QStep GStep Fn Less PL FnM

/-- bytes behind a number -/
def numG (a : Nat) (l : List UInt8) : Nat := l.foldl (fun a c => a * 256 + c.toNat) a
end Go.Proofs.Ytfdomanbdfekhaa

/-
  varint.Decode and the reference's VarOf: one answer. No condition.
-/
set_option linter.unusedVariables false
set_option linter.unusedSimpArgs false
set_option linter.unusedVariables false
namespace Go.Proofs.Ytfdomanbdfekhaa
set_option maxRecDepth 100000
attribute [local irreducible] Run RunL QStep GStep Fn Less PL FnM

/-- how many bytes -/
def varW (l : List UInt8) : Nat := 2 ^ ((l.getD 0 default).toNat / 64)
/-- P1.3 -/
def varD (l : List UInt8) : Nat × Nat × Int :=
  if l.length = 0 then (0, 0, 4) else if l.length < varW l then (0, 0, 4) else (numG ((l.getD 0 default).toNat % 64) ((l.take (varW l)).drop 1), varW l, 0)
end Go.Proofs.Ytfdomanbdfekhaa

/-
  head.Decode and the reference's HeadOf: one answer. No condition.
-/
set_option linter.unusedVariables false
set_option linter.unusedSimpArgs false
set_option linter.unusedVariables false
namespace Go.Proofs.Ytfdomanbdfekhaa
set_option maxRecDepth 100000
attribute [local irreducible] Run RunL QStep GStep Fn Less PL FnM

def hdErr (e : Int) : DHead × Int × Int := (⟨0, 0, 0, [], 0, 0⟩, 0, e)
def encHd (r : DHead × Int × Int) : V := .tup [.agg (encHead r.1), .lit (.int .i64 r.2.1), .lit (.int .i64 r.2.2)]
/-- the kind, and how many bytes the number has -/
def hdK (c : Nat) : Option (Int × Nat) := if 64 ≤ c ∧ c < 68 then some (2, c - 63) else if 192 ≤ c ∧ c < 196 then some (0, c - 191) else if c = 240 then some (1, 0) else none
def hdFin (K : Int) (T F : Nat) (tok : List UInt8) (S u : Nat) (l : List UInt8) : DHead × Int × Int :=
  if l.length < u + S then hdErr 4 else (⟨K, T, F, tok, ((numG 0 ((l.take (u + S)).drop u) : Nat) : Int), S⟩, ((u + S : Nat) : Int), 0)
def hdLong (K : Int) (S : Nat) (l : List UInt8) (v : Nat × Nat × Int) : DHead × Int × Int :=
  if ¬ v.2.2 = 0 then hdErr v.2.2 else if 120 < v.1 then hdErr 1 else if l.length < 3 + v.2.1 + v.1 then hdErr 4
  else hdFin K (l.getD 1 default).toNat (l.getD 2 default).toNat ((l.take (3 + v.2.1 + v.1)).drop (3 + v.2.1)) S (3 + v.2.1 + v.1) l
def hdR (K : Int) (S : Nat) (l : List UInt8) : DHead × Int × Int :=
  if K = 2 then (if l.length < 2 then hdErr 4 else hdFin 2 (l.getD 1 default).toNat 0 [] S 2 l)
  else if l.length < 3 then hdErr 4 else hdLong K S l (varD (l.drop 3))
/-- P5.3 -/
def hdD (l : List UInt8) : DHead × Int × Int :=
  if l.length = 0 then hdErr 4 else match hdK (l.getD 0 default).toNat with
    | none => hdErr 2
    | some (K, S) => hdR K S l
end Go.Proofs.Ytfdomanbdfekhaa

/-
  The words of a lock: plain lemmas. No condition.
-/
set_option linter.unusedVariables false
set_option linter.unusedSimpArgs false
set_option linter.unusedVariables false
namespace Go.Proofs.Ytfdomanbdfekhaa
set_option maxRecDepth 100000
attribute [local irreducible] Run RunL QStep GStep Fn Less PL FnM

def mxS (x : Int) (s : Nat) : Int := bitsI .xor .u64 x (x.fdiv (2 ^ s))
def mx1 (x : Int) : Int := IntKind.u64.wrap (x + 11400714819323198485)
def mx2 (x : Int) : Int := IntKind.u64.wrap (mxS x 30 * 13787848793156543929)
def mx3 (x : Int) : Int := IntKind.u64.wrap (mxS x 27 * 10723151780598845931)
/-- P6.1 -/
def mixV (x : Int) : Int := mxS (mx3 (mx2 (mx1 x))) 31
/-- P6.2 -/
def keyV (s n : Int) : Int := mixV (bitsI .xor .u64 (mixV s) (IntKind.u64.wrap n))
def mxK (x : Int) : Nat → Int
  | 0 => x
  | 1 => mx1 x
  | 2 => mx2 (mx1 x)
  | _ => mx3 (mx2 (mx1 x))

end Go.Proofs.Ytfdomanbdfekhaa

/-
  Locking: the words of a key, and a tag: plain lemmas. No condition.
-/
set_option linter.unusedVariables false
set_option linter.unusedSimpArgs false
set_option linter.unusedVariables false
namespace Go.Proofs.Ytfdomanbdfekhaa
set_option maxRecDepth 100000
attribute [local irreducible] Run RunL QStep GStep Fn Less PL FnM

def startV (key n : Int) : Int := mixV (bitsI .xor .u64 key (mixV (IntKind.u64.wrap n)))
/-- the word beside byte i -/
def wordV (st : Int) (q : Nat) : Nat := (mixV (IntKind.u64.wrap (st + (q : Int)))).toNat
def ks (st : Int) (i : Nat) : UInt8 := UInt8.ofNat (wordV st (i / 8) / 256 ^ (i % 8))
def turnG (st : Int) : Nat → List UInt8 → List UInt8
  | _, [] => []
  | i, c :: r => (c ^^^ ks st i) :: turnG st (i + 1) r
def turnB (key n : Int) (l : List UInt8) : List UInt8 := turnG (startV key n) 0 l
/-- half turned -/
def mixL (st : Int) (l : List UInt8) (k : Nat) : List UInt8 := (turnG st 0 l).take k ++ l.drop k
/-- a part hashed -/
def hashB (h : Int) (b : List UInt8) : Int := b.foldl (fun h c => mixV (bitsI .xor .u64 h (c.toNat : Int))) h
def tagH (h : Int) (b : List UInt8) : Int := mixV (bitsI .xor .u64 (hashB h b) ((b.length * 256 : Nat) : Int))
def tagV (key n : Int) (ps : List (List UInt8)) : Int := ps.foldl tagH (bitsI .xor .u64 (mixV key) (IntKind.u64.wrap n))
def tagB (key n : Int) (ps : List (List UInt8)) : List UInt8 := bigB (tagV key n ps).toNat 8
/-- P6.3 -/
def sealB (key n : Int) (h t : List UInt8) : List UInt8 := turnB key n t ++ tagB key n [h, t]
end Go.Proofs.Ytfdomanbdfekhaa

/-
  The laws' sameBytes. No condition.
-/
set_option linter.unusedVariables false
set_option linter.unusedSimpArgs false
set_option linter.unusedVariables false
namespace Go.Proofs.Ytfdomanbdfekhaa
set_option maxRecDepth 100000
attribute [local irreducible] Run RunL QStep GStep Fn Less PL

theorem sameBytes_fn (l m : List UInt8) : Fn Try.prog 15 [.ro (l.map encB), .ro (m.map encB)] (.lit (.bool (yes (l = m)))) := by
  refine fn_of_run (by kernel_rfl) Try.func15 rfl (by kernel_rfl) ?_
  (repeat' first | (refine go_ ?_; ((repeat' first | exact True.intro | refine Two.mk ?_ ?_); all_goals intros)) | fail "")
  all_goals refine ends_ (hr := ?_)
  · exact yesV (by assumption)
  · exact noV (by assumption)
end Go.Proofs.Ytfdomanbdfekhaa
