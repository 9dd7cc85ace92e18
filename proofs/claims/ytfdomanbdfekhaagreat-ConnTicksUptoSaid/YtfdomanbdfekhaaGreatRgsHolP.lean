/-
  ranges.Holes: what it answers. No condition.
-/
import Derived.Test.YtfdomanbdfekhaaGreatGA
import Derived.Test.YtfdomanbdfekhaaGreatGE
set_option linter.unusedVariables false
set_option linter.unusedSimpArgs false
set_option linter.unusedVariables false
namespace Go.Proofs.YtfdomanbdfekhaaGreat
set_option maxRecDepth 100000
attribute [local irreducible] Run RunL QStep GStep Fn Less PL

theorem holes_fn' (l : List DRange) (r : DRange) (hw : ∀ y, y ∈ l → wfRange y) (hl : l.length * 16 ≤ 140737488351232) : Fn Tryz.prog 59 [.ro (l.map encRange), .agg (encRange r)] (.tup [.ro ((rHoles l r).1.map encRange), .lit (.int .i64 (rHoles l r).2)]) := by
  have h1 := rangesFaultR_fn l r hw (by omega)
  unfold rHoles
  by_cases h0 : rgFlt l r = 0
  · obtain ⟨hs, hr⟩ := rgFlt_ok h0
    rw [h0] at h1 ⊢
    rw [if_neg (by omega)]
    refine fn_of_run (by kernel_rfl) Tryz.func59 rfl (by kernel_rfl) ?_
    (repeat' first | (refine s_call (h1) (h := ?_)) | (refine p_call (h1) (h := ?_)) | (refine go_ ?_; ((repeat' first | exact True.intro | refine Two.mk ?_ ?_); all_goals intros)) | fail "")
    refine r_for (fun k : Nat => ⟨[(3, .ptr 0 0 0 0), (18, .ro (l.map encRange)), (19, .lit (.int .i64 l.length)), (20, .lit (.int .i64 k)), (7, .ro ((hol l r k).map encRange))], [(0, some (.box 99 (encRange r)))], 1, Tryz.f59.ntmps⟩)
      (fun k => k ≤ l.length) (fun k => l.length - k) 0 (Nat.zero_le _) less_to ?_
    intro k hk
    by_cases hkn : k < l.length
    · obtain ⟨hx, _⟩ := rSet_good hs _ (getD_mem hkn)
      obtain ⟨hh1, hh2⟩ := hol_set (r := r) hs hr k hk
      have hc := cut_fn (hol l r k) (l.getD k default) (wf_set hh1) (by omega)
      rw [rCutR_ok hh1 hx, ← hol_snoc hkn] at hc
      dsimp only at hc
      (repeat' first | (refine s_call (hc) (h := ?_)) | (refine p_call (hc) (h := ?_)) | (refine go_ ?_; ((repeat' first | exact True.intro | refine Two.mk ?_ ?_); all_goals intros)) | fail "")
      all_goals (refine ⟨k + 1, ?_, ?_, ?_⟩; rotate_left 2; (exact lessA_); (focus (omega)); (focus (exact hkn)))
    · have hkl : k = l.length := by omega
      subst hkl
      (repeat' first | (refine go_ ?_; ((repeat' first | exact True.intro | refine Two.mk ?_ ?_); all_goals intros)) | fail "")
      all_goals exact ends_ (hr := rfl)
  · rw [if_pos h0]
    generalize rgFlt l r = e at *
    refine fn_of_run (by kernel_rfl) Tryz.func59 rfl (by kernel_rfl) ?_
    (repeat' first | (refine s_call (h1) (h := ?_)) | (refine p_call (h1) (h := ?_)) | (refine go_ ?_; ((repeat' first | exact True.intro | refine Two.mk ?_ ?_); all_goals intros)) | fail "")
    all_goals (exact endwA_)
end Go.Proofs.YtfdomanbdfekhaaGreat
