/-
  What comes out of a frame's bytes is small: plain lemmas. No condition.
-/
import Derived.Test.YthpophgcmgdpjaaFrS
set_option linter.unusedVariables false
set_option linter.unusedSimpArgs false
set_option linter.unusedVariables false
namespace Go.Proofs.Ythpophgcmgdpjaa
set_option maxRecDepth 100000
attribute [local irreducible] Run RunL QStep GStep Fn Less PL FnM

theorem frFlt_small {f : DFrame} (h : frFlt f = 0) : f.Data.length ≤ 120 ∧ f.Ranges.length ≤ 6 := by
  unfold frFlt at h
  split at h
  · cases h
  split at h
  · cases h
  rename_i h1 h2
  omega
theorem frFin_small (A : Nat) (z : FS) : (frFin A z).1.Ranges.length ≤ 6 ∧ (frFin A z).1.Data.length ≤ 120 := by
  unfold frFin
  split
  · exact ⟨by simp [frErr], by simp [frErr]⟩
  · split
    · exact ⟨by simp [frErr], by simp [frErr]⟩
    · rename_i h1 h2
      obtain ⟨h3, h4⟩ := frFlt_small (f := z.1) (by simpa using h2)
      exact ⟨h4, h3⟩
theorem frBody_small (A : Nat) (K : Int) (fin : Bool) (s : List UInt8) : (frBody A K fin s).1.Ranges.length ≤ 6 ∧ (frBody A K fin s).1.Data.length ≤ 120 := by
  unfold frBody
  by_cases h : kOk K = false
  · rw [if_pos h]; exact ⟨by simp [frErr], by simp [frErr]⟩
  · rw [if_neg h]; exact frFin_small _ _
theorem frD_small (l : List UInt8) : (frD l).1.Ranges.length ≤ 6 ∧ (frD l).1.Data.length ≤ 120 := by
  unfold frD frHead
  split
  · exact ⟨by simp [frErr], by simp [frErr]⟩
  · split
    · exact ⟨by simp [frErr], by simp [frErr]⟩
    · exact frBody_small _ _ _ _
end Go.Proofs.Ythpophgcmgdpjaa
