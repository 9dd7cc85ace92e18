/-
  What the reference keeps of places: a map, field by field. No condition.
-/
import Derived.Test.YthpophgcmgdpjaaEnW
set_option linter.unusedVariables false
set_option linter.unusedSimpArgs false
set_option linter.unusedVariables false
namespace Go.Proofs.Ythpophgcmgdpjaa
set_option maxRecDepth 100000
attribute [local irreducible] Run RunL QStep GStep Fn Less PL FnM

def refsM : Nat → List Int → List (Value × Value)
  | _, [] => []
  | i, r :: rs => if 0 ≤ r then (.int .i64 i, .int .i64 r) :: refsM (i + 1) rs else refsM (i + 1) rs
theorem refsM_keep : ∀ (i : Nat) (rs : List Int) (r : Int), ¬ 0 ≤ r → refsM i (rs ++ [r]) = refsM i rs
  | i, [], r, h => by simp [refsM, h]
  | i, s :: rs, r, h => by
    simp only [List.cons_append, refsM, refsM_keep (i + 1) rs r h]
theorem refsM_put : ∀ (i : Nat) (rs : List Int) (r : Int), 0 ≤ r → mput (.int .i64 ((i + rs.length : Nat) : Int)) (.int .i64 r) (refsM i rs) = refsM i (rs ++ [r])
  | i, [], r, h => by simp [refsM, h, mput]
  | i, s :: rs, r, h => by
    have ih := refsM_put (i + 1) rs r h
    have e : i + (s :: rs).length = i + 1 + rs.length := by rw [List.length_cons]; omega
    rw [e]
    simp only [List.cons_append, refsM]
    by_cases hs : 0 ≤ s
    · rw [if_pos hs, if_pos hs]
      have hk : kEq (.int .i64 ((i + 1 + rs.length : Nat) : Int)) (.int .i64 (i : Int)) = false := by
        simp only [kEq, beq_eq_false_iff_ne, ne_eq]; omega
      simp only [mput, hk, cond_false, ih]
    · rw [if_neg hs, if_neg hs, ih]
theorem refsM_low : ∀ (i k : Nat) (rs : List Int), k < i → mlook (.int .i64 (k : Int)) (refsM i rs) = none
  | i, k, [], h => rfl
  | i, k, s :: rs, h => by
    have ih := refsM_low (i + 1) k rs (by omega)
    simp only [refsM]
    split
    · have hk : kEq (.int .i64 (k : Int)) (.int .i64 (i : Int)) = false := by
        simp only [kEq, beq_eq_false_iff_ne, ne_eq]; omega
      simp only [mlook, hk, cond_false, ih]
    · exact ih
theorem refsM_look : ∀ (i k : Nat) (rs : List Int), k < rs.length → mlook (.int .i64 ((i + k : Nat) : Int)) (refsM i rs) = if 0 ≤ rs.getD k default then some (.int .i64 (rs.getD k default)) else none
  | i, k, [], h => by simp at h
  | i, 0, s :: rs, h => by
    simp only [refsM, Nat.add_zero, List.getD_cons_zero]
    by_cases hs : 0 ≤ s
    · rw [if_pos hs, if_pos hs]
      simp [mlook, kEq]
    · rw [if_neg hs, if_neg hs]
      exact refsM_low (i + 1) i rs (by omega)
  | i, k + 1, s :: rs, h => by
    have ih := refsM_look (i + 1) k rs (by simpa using h)
    have e : i + (k + 1) = i + 1 + k := by omega
    rw [e]
    simp only [refsM, List.getD_cons_succ]
    by_cases hs : 0 ≤ s
    · rw [if_pos hs]
      have hk : kEq (.int .i64 ((i + 1 + k : Nat) : Int)) (.int .i64 (i : Int)) = false := by
        simp only [kEq, beq_eq_false_iff_ne, ne_eq]; omega
      simp only [mlook, hk, cond_false]
      exact ih
    · rw [if_neg hs]; exact ih
theorem refsM_at {rs : List Int} {k : Nat} (h : k < rs.length) : mlook (.int .i64 (k : Int)) (refsM 0 rs) = if 0 ≤ rs.getD k default then some (.int .i64 (rs.getD k default)) else none := by
  have := refsM_look 0 k rs h
  rwa [Nat.zero_add] at this
theorem refsM_new {rs : List Int} {k : Nat} (h : rs.length = k) {r : Int} (hr : 0 ≤ r) : mput (.int .i64 (k : Int)) (.int .i64 r) (refsM 0 rs) = refsM 0 (rs ++ [r]) := by
  have := refsM_put 0 rs r hr
  rwa [Nat.zero_add, h] at this
end Go.Proofs.Ythpophgcmgdpjaa
