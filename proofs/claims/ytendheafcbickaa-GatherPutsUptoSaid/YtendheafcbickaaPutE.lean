/-
  gather.end: how far the bytes reach that were gathered.
-/
import Derived.Test.YtendheafcbickaaGA
import Derived.Test.YtendheafcbickaaGC
import Derived.Test.YtendheafcbickaaProg
import Derived.Test.YtendheafcbickaaGH
set_option linter.unusedVariables false
set_option linter.unusedSimpArgs false
set_option linter.unusedVariables false
namespace Go.Proofs.Ytendheafcbickaa
set_option maxRecDepth 100000
attribute [local irreducible] Run RunL QStep GStep Fn Less PL

/-- where what was gathered ends -/
def gReach (g : DGather) : Int := if 0 < g.Held.length then (g.Held.getD (g.Held.length - 1) default).Off + (g.Held.getD (g.Held.length - 1) default).Data.length else g.Done
theorem gEnd_mem : ∀ (l : List DPiece) (f : Bool) (a b : Int), 0 ≤ a → gEnd f a l = some b → ∀ p ∈ l, a ≤ p.Off ∧ p.Off + p.Data.length ≤ 4611686018427387903
  | [], _, _, _, _, _, p, hp => by cases hp
  | q :: l, f, a, b, ha, h, p, hp => by
    unfold gEnd at h
    split at h
    · rename_i hc
      rcases List.mem_cons.1 hp with rfl | hp
      · exact ⟨hc.2.1, hc.2.2.1⟩
      · have := gEnd_mem l false _ b (by omega) h p hp
        exact ⟨by omega, this.2⟩
    · cases h
theorem flt_mem {g : DGather} (h : gatherFlt g = 0) : gHead g ∧ ∀ p ∈ g.Held, g.Done ≤ p.Off ∧ p.Off + p.Data.length ≤ 4611686018427387903 := by
  unfold gatherFlt at h
  split at h
  · rename_i hc
    refine ⟨hc.1, ?_⟩
    cases he : gEnd true g.Done g.Held with
    | none => rw [he] at hc; exact absurd hc.2 (by simp [gTail])
    | some b => exact gEnd_mem _ _ _ _ (by have := hc.1; unfold gHead at this; omega) he
  · cases h
theorem gatherEnd_fn (g : DGather) (h : gatherFlt g = 0) : Fn Try.prog 8 [.agg (encGather g)] (.lit (.int .i64 (gReach g))) := by
  obtain ⟨hh, hm⟩ := flt_mem h
  unfold gHead at hh
  unfold gReach
  by_cases hn : 0 < g.Held.length
  · rw [if_pos hn]
    have hp := hm _ (getD_mem (k := g.Held.length - 1) (by omega))
    clear hm h
    refine fn_of_run (by kernel_rfl) Try.func8 rfl (by kernel_rfl) ?_
    (repeat' first | (refine go_ ?_; ((repeat' first | exact True.intro | refine Two.mk ?_ ?_); all_goals intros)) | fail "")
    all_goals first
      | exact ends_ (hr := rfl)
      | (exfalso; omega)
      | skip
  · rw [if_neg hn]
    clear hm h
    refine fn_of_run (by kernel_rfl) Try.func8 rfl (by kernel_rfl) ?_
    (repeat' first | (refine go_ ?_; ((repeat' first | exact True.intro | refine Two.mk ?_ ?_); all_goals intros)) | fail "")
    all_goals first
      | exact ends_ (hr := rfl)
      | (exfalso; omega)
      | skip
end Go.Proofs.Ytendheafcbickaa
