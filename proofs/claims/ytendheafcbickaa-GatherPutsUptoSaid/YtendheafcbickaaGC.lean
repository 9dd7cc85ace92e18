/-
  SEVERAL TEXTS IN ONE: each with its own comment.
-/
import Derived.Test.YtendheafcbickaaGB
import Derived.Test.YtendheafcbickaaGA
import Derived.Test.YtendheafcbickaaProg
/-
  Plain lemmas on lists.
-/
set_option linter.unusedVariables false
set_option linter.unusedSimpArgs false
set_option linter.unusedVariables false
namespace Go.Proofs.Ytendheafcbickaa
theorem drop_cons {α : Type} [Inhabited α] {l : List α} {k : Nat} (h : k < l.length) : l.drop k = l.getD k default :: l.drop (k + 1) := by
  rw [List.drop_eq_getElem_cons h, List.getD_eq_getElem?_getD, List.getElem?_eq_getElem h]; rfl
theorem getD_mem {α : Type} [Inhabited α] {l : List α} {k : Nat} (h : k < l.length) : l.getD k default ∈ l := by
  rw [List.getD_eq_getElem?_getD, List.getElem?_eq_getElem h]; exact List.getElem_mem h
theorem take_snoc {α : Type} [Inhabited α] {l : List α} {k : Nat} (h : k < l.length) : l.take (k + 1) = l.take k ++ [l.getD k default] := by
  rw [List.take_succ_eq_append_getElem h, List.getD_eq_getElem?_getD, List.getElem?_eq_getElem h]; rfl
theorem take_same {α : Type} [Inhabited α] {l m : List α} {k : Nat} (h : k < l.length) (h2 : k < m.length) (ht : l.take k = m.take k) (he : l.getD k default = m.getD k default) : l.take (k + 1) = m.take (k + 1) := by
  rw [take_snoc h, take_snoc h2, ht, he]
theorem take_all {α : Type} {l m : List α} {k : Nat} (h : k = l.length) (h2 : k = m.length) (ht : l.take k = m.take k) : l = m := by
  rw [List.take_of_length_le (by omega), List.take_of_length_le (by omega)] at ht; exact ht
/-- two lists gone through together, as long as all agrees -/
def Along {α : Type} (l m : List α) (same : Prop) (k : Nat) (ok : Bool) : Prop := k ≤ l.length ∧ (ok = true → l.length = m.length ∧ l.take k = m.take k) ∧ (ok = false → ¬ same)
def AllTo (Q : Nat → Prop) (k : Nat) : Prop := ∀ i, i < k → Q i
end Go.Proofs.Ytendheafcbickaa

/-
  The reference's upTo. No condition.
-/
set_option linter.unusedVariables false
set_option linter.unusedSimpArgs false
set_option linter.unusedVariables false
namespace Go.Proofs.Ytendheafcbickaa
set_option maxRecDepth 100000
attribute [local irreducible] Run RunL QStep GStep Fn Less PL

theorem upTo_fn (a b : Int) : Fn Try.prog 12 [.lit (.int .i64 a), .lit (.int .i64 b)] (.lit (.bool (decide (0 ≤ a ∧ a ≤ b)))) := by
  refine fn_of_run (by kernel_rfl) Try.func12 rfl (by kernel_rfl) ?_
  (repeat' first | (refine go_ ?_; ((repeat' first | exact True.intro | refine Two.mk ?_ ?_); all_goals intros)) | fail "")
  all_goals refine ends_ (hr := ?_)
  all_goals first
    | rw [decide_eq_true (by omega)]
    | rw [decide_eq_false (by omega)]
end Go.Proofs.Ytendheafcbickaa

/-
  The laws' sameBytes. No condition.
-/
set_option linter.unusedVariables false
set_option linter.unusedSimpArgs false
set_option linter.unusedVariables false
namespace Go.Proofs.Ytendheafcbickaa
set_option maxRecDepth 100000
attribute [local irreducible] Run RunL QStep GStep Fn Less PL

theorem sameBytes_fn (l m : List UInt8) : Fn Try.prog 15 [.ro (l.map encB), .ro (m.map encB)] (.lit (.bool (yes (l = m)))) := by
  refine fn_of_run (by kernel_rfl) Try.func15 rfl (by kernel_rfl) ?_
  (repeat' first | (refine go_ ?_; ((repeat' first | exact True.intro | refine Two.mk ?_ ?_); all_goals intros)) | fail "")
  all_goals refine ends_ (hr := ?_)
  · exact yesV (by assumption)
  · exact noV (by assumption)
end Go.Proofs.Ytendheafcbickaa
