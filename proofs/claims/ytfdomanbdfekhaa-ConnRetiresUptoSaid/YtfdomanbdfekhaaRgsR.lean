/-
  The reference's RangesFault: what it answers. No condition.
-/
import Derived.Test.YtfdomanbdfekhaaGo
import Derived.Test.YtfdomanbdfekhaaRgs
set_option linter.unusedVariables false
set_option linter.unusedSimpArgs false
set_option linter.unusedVariables false
namespace Go.Proofs.Ytfdomanbdfekhaa
set_option maxRecDepth 100000
attribute [local irreducible] Run RunL QStep GStep Fn Less PL

theorem rangesFaultRef_fn (l : List DRange) (hw : ∀ y, y ∈ l → wfRange y) (hl : l.length * 16 ≤ 140737488355312) : Fn Try.prog 139 [.ro (l.map encRange)] (.lit (.int .i64 (rFlt l))) := by
  refine fn_of_run (by kernel_rfl) Try.func139 rfl (by kernel_rfl) ?_
  (repeat' first | (refine go_ ?_; ((repeat' first | exact True.intro | refine Two.mk ?_ ?_); all_goals intros)) | fail "")
  refine r_for (fun k : Nat => ⟨[(0, .ro (l.map encRange)), (6, .ro (l.map encRange)), (7, .lit (.int .i64 l.length)), (8, .lit (.int .i64 k)), (3, .lit (.int .i64 (lastHi l k)))], [], 0, Try.f139.ntmps⟩)
    (fun k => k ≤ l.length ∧ (rSet (-2) l ↔ rSet (lastHi l k) (l.drop k)) ∧ -2 ≤ lastHi l k ∧ lastHi l k ≤ 4611686018427387903) (fun k => l.length - k) 0 ⟨Nat.zero_le _, by simp [lastHi], by simp [lastHi], by simp [lastHi]⟩ less_to ?_
  rintro k ⟨hk, hi, hb1, hb2⟩
  by_cases hkn : k < l.length
  · have hd := rSet_drop (a := lastHi l k) hkn
    have hwk := hw _ (getD_mem hkn)
    unfold wfRange I64 at hwk
    have hlast : lastHi l (k + 1) = (l.getD k default).Hi := by unfold lastHi; rw [if_neg (by omega), Nat.add_sub_cancel]
    (repeat' first | (refine s_dec (isRange_fn _) (ht := ?_) (hff := ?_) <;> intro _ <;> try (exfalso; omega)) | (refine p_dec (isRange_fn _) (ht := ?_) (hff := ?_) <;> intro _ <;> try (exfalso; omega)) | (refine go_ ?_; ((repeat' first | exact True.intro | refine Two.mk ?_ ?_); all_goals intros)) | fail "")
    all_goals first
      | (refine ends_ (hr := ?_); unfold rFlt; rw [if_neg (fun h => ?_)]; have := hd.1 (hi.1 h); unfold rGood at *; omega)
      | (refine ⟨k + 1, ?_, ?_, ?_⟩; rotate_left 2; (exact lessA_); (focus (omega)); (focus (have hg : rGood (l.getD k default) := (by assumption); unfold rGood at hg; refine ⟨hkn, ⟨fun h => (hd.1 (hi.1 h)).2.2, fun h => hi.2 (hd.2 ⟨by assumption, ?_, h⟩)⟩, ?_, ?_⟩ <;> omega)))
  · (repeat' first | (refine go_ ?_; ((repeat' first | exact True.intro | refine Two.mk ?_ ?_); all_goals intros)) | fail "")
    all_goals (refine ends_ (hr := ?_); unfold rFlt; rw [if_pos (hi.2 (by rw [List.drop_eq_nil_of_le (by omega)]; trivial))])
end Go.Proofs.Ytfdomanbdfekhaa
