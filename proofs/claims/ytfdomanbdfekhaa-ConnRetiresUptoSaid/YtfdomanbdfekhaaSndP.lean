/-
  The reference's SenderOver: the plain part: what is left of the data when all that was heard of is taken out.
-/
import Derived.Test.YtfdomanbdfekhaaSndO
set_option linter.unusedVariables false
set_option linter.unusedSimpArgs false
set_option linter.unusedVariables false
namespace Go.Proofs.Ytfdomanbdfekhaa
set_option maxRecDepth 100000
attribute [local irreducible] Run RunL QStep GStep Fn Less PL

theorem hStep_keep (r : DRange) : ∀ (l : List DRange) (s : Int × List DRange), s.2 ≠ [] → (l.foldl (hStep r) s).2 ≠ []
  | [], s, h => h
  | x :: l, s, h => by
    rw [List.foldl_cons]
    refine hStep_keep r l _ ?_
    unfold hStep
    split
    · exact h
    · simp [h]
theorem hEnd_keep {r : DRange} {s : Int × List DRange} (h : s.2 ≠ []) : hEnd r s ≠ [] := by unfold hEnd; simp [h]
theorem over_iff {A : List DRange} {n : Int} (hs : rSet (-2) A) (hn : 1 ≤ n) (hn2 : n ≤ 600) (hlow : ∀ x ∈ A, x.Hi < n) : hol A ⟨0, n - 1⟩ A.length = [] ↔ A = [DRange.mk 0 (n - 1)] := by
  have hr : rGood ⟨0, n - 1⟩ := by unfold rGood; dsimp only; omega
  rw [hol_end hs hr]
  unfold hSt
  rw [List.take_length]
  rcases A with _ | ⟨x, l⟩
  · constructor
    · intro h
      unfold hEnd at h
      rw [if_pos (by dsimp only [List.foldl_nil]; omega)] at h
      simp at h
    · intro h; cases h
  · have hx := (rSet_good hs x (by simp)).1
    have hxl := hlow x (by simp)
    unfold rGood at hx
    rw [List.foldl_cons]
    have e : hStep ⟨0, n - 1⟩ ((DRange.mk 0 (n - 1)).Lo, []) x = (x.Hi + 1, if 0 < x.Lo then [⟨0, x.Lo - 1⟩] else []) := by
      unfold hStep
      rw [if_neg (by dsimp only; omega)]
      rfl
    rw [e]
    by_cases h0 : 0 < x.Lo
    · rw [if_pos h0]
      constructor
      · intro h; exact absurd h (hEnd_keep (hStep_keep _ _ _ (by simp)))
      · intro h; injection h with h _; subst h; dsimp only at h0; omega
    · rw [if_neg h0]
      rcases l with _ | ⟨y, l⟩
      · rw [List.foldl_nil]
        unfold hEnd
        dsimp only
        constructor
        · intro h
          split at h
          · simp at h
          · rw [show x = DRange.mk 0 (n - 1) from ext_Range (by dsimp only; omega) (by dsimp only; omega)]
        · intro h
          injection h with h _
          subst h
          rw [if_neg (by dsimp only; omega)]
          rfl
      · have hy := (rSet_good hs.2.2 y (by simp))
        have hyl := hlow y (by simp)
        unfold rGood at hy
        constructor
        · intro h
          refine absurd h (hEnd_keep ?_)
          rw [List.foldl_cons]
          refine hStep_keep _ _ _ ?_
          unfold hStep
          rw [if_neg (by dsimp only; omega), if_pos (by dsimp only; omega)]
          simp
        · intro h; cases h
end Go.Proofs.Ytfdomanbdfekhaa
