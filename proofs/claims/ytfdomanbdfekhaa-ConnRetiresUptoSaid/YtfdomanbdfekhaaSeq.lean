/-
  Plain lemmas on lists.
-/
import Derived.Test.YtfdomanbdfekhaaEnc
set_option linter.unusedVariables false
set_option linter.unusedSimpArgs false
set_option linter.unusedVariables false
namespace Go.Proofs.Ytfdomanbdfekhaa
theorem drop_cons {α : Type} [Inhabited α] {l : List α} {k : Nat} (h : k < l.length) : l.drop k = l.getD k default :: l.drop (k + 1) := by
  rw [List.drop_eq_getElem_cons h, List.getD_eq_getElem?_getD, List.getElem?_eq_getElem h]; rfl
theorem getD_mem {α : Type} [Inhabited α] {l : List α} {k : Nat} (h : k < l.length) : l.getD k default ∈ l := by
  rw [List.getD_eq_getElem?_getD, List.getElem?_eq_getElem h]; exact List.getElem_mem h
theorem take_snoc {α : Type} [Inhabited α] {l : List α} {k : Nat} (h : k < l.length) : l.take (k + 1) = l.take k ++ [l.getD k default] := by
  rw [List.take_succ_eq_append_getElem h, List.getD_eq_getElem?_getD, List.getElem?_eq_getElem h]; rfl
theorem take_same {α : Type} [Inhabited α] {l m : List α} {k : Nat} (h : k < l.length) (h2 : k < m.length) (ht : l.take k = m.take k) (he : l.getD k default = m.getD k default) : l.take (k + 1) = m.take (k + 1) := by
  rw [take_snoc h, take_snoc h2, ht, he]
theorem ne_getD {α : Type} [Inhabited α] {l m : List α} {k : Nat} (h : l.getD k default ≠ m.getD k default) : l ≠ m := fun e => h (by rw [e])
theorem take_all {α : Type} {l m : List α} {k : Nat} (h : k = l.length) (h2 : k = m.length) (ht : l.take k = m.take k) : l = m := by
  rw [List.take_of_length_le (by omega), List.take_of_length_le (by omega)] at ht; exact ht
/-- two lists gone through together, as long as all agrees -/
def Along {α : Type} (l m : List α) (same : Prop) (k : Nat) (ok : Bool) : Prop := k ≤ l.length ∧ (ok = true → l.length = m.length ∧ l.take k = m.take k) ∧ (ok = false → ¬ same)
theorem mem_take_snoc {α : Type} [Inhabited α] {l : List α} {k : Nat} {p : α → Prop} (h : k < l.length) (ht : ∀ x ∈ l.take k, p x) (hk : p (l.getD k default)) : ∀ x ∈ l.take (k + 1), p x := by
  intro x hx
  rw [take_snoc h, List.mem_append, List.mem_singleton] at hx
  rcases hx with hx | rfl
  · exact ht x hx
  · exact hk
def AllTo (Q : Nat → Prop) (k : Nat) : Prop := ∀ i, i < k → Q i
theorem allTo0 {Q : Nat → Prop} : AllTo Q 0 := fun i h => by omega
theorem allTo_succ {Q : Nat → Prop} {k : Nat} : AllTo Q (k + 1) ↔ AllTo Q k ∧ Q k :=
  ⟨fun h => ⟨fun i hi => h i (by omega), h k (by omega)⟩, fun h i hi => by
    by_cases e : i = k
    · subst e; exact h.2
    · exact h.1 i (by omega)⟩
end Go.Proofs.Ytfdomanbdfekhaa
