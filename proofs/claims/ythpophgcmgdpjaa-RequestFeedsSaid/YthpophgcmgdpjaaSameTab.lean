/-
  The laws' sameFields and sameTable. No condition.
-/
import Derived.Test.YthpophgcmgdpjaaGo
import Derived.Test.YthpophgcmgdpjaaSeq
import Derived.Test.YthpophgcmgdpjaaProg
set_option linter.unusedVariables false
set_option linter.unusedSimpArgs false
set_option linter.unusedVariables false
namespace Go.Proofs.Ythpophgcmgdpjaa
set_option maxRecDepth 100000
attribute [local irreducible] Run RunL QStep GStep Fn Less PL

set_option maxHeartbeats 2000000 in
theorem sameFields_fn (l m : List DField) (hl : l.length * 32 ≤ 140737488355328) (hm : m.length * 32 ≤ 140737488355328) : Fn Try.prog 17 [.ro (l.map encField), .ro (m.map encField)] (.lit (.bool (yes (l = m)))) := by
  by_cases hlen : l.length = m.length
  · refine fn_of_run (by kernel_rfl) Try.func17 rfl (by kernel_rfl) ?_
    (repeat' first | (refine go_ ?_; ((repeat' first | exact True.intro | refine Two.mk ?_ ?_); all_goals intros)) | fail "")
    refine r_for (fun x : Nat × Bool => ⟨[(0, .ro (l.map encField)), (1, .ro (m.map encField)), (5, .lit (.bool x.2)), (6, .lit (.int .i64 x.1))], [], 0, Try.f17.ntmps⟩)
      (fun x => Along l m (l = m) x.1 x.2) (fun x => l.length - x.1) (0, true) ⟨Nat.zero_le _, fun _ => ⟨hlen, rfl⟩, fun h => by cases h⟩ less_to ?_
    rintro ⟨k, ok⟩ ⟨hk, hs, hn⟩
    dsimp only at hk hs hn ⊢
    cases ok
    · (repeat' first | (refine go_ ?_; ((repeat' first | exact True.intro | refine Two.mk ?_ ?_); all_goals intros)) | fail "")
      all_goals (refine ends_ (hr := ?_); exact noV (hn rfl))
    · obtain ⟨_, ht⟩ := hs rfl
      by_cases hkn : k < l.length
      · skip
        (repeat' first | (refine go_ ?_; ((repeat' first | exact True.intro | refine Two.mk ?_ ?_); all_goals intros)) | fail "")
        all_goals first
          | (refine ⟨(k + 1, true), ?_, ?_, ?_⟩; rotate_left 2; (exact lessA_); (focus (dsimp only; omega)); (focus (exact ⟨hkn, fun _ => ⟨hlen, take_same hkn (by omega) ht (by have h := ‹_ ∧ _›; exact ext_Field (strB_inj.1 h.1) (strB_inj.1 h.2.1))⟩, fun h => by cases h⟩)))
          | (refine ⟨(k + 1, false), ?_, ?_, ?_⟩; rotate_left 2; (exact lessA_); (focus (dsimp only; omega)); (focus (exact ⟨hkn, fun h => (by cases h), fun _ => ne_getD (k := k) (by intro e; simp_all)⟩)))
      · (repeat' first | (refine go_ ?_; ((repeat' first | exact True.intro | refine Two.mk ?_ ?_); all_goals intros)) | fail "")
        all_goals (refine ends_ (hr := ?_); exact yesV (take_all (by omega) (by omega) ht))
  · refine fn_of_run (by kernel_rfl) Try.func17 rfl (by kernel_rfl) ?_
    (repeat' first | (refine go_ ?_; ((repeat' first | exact True.intro | refine Two.mk ?_ ?_); all_goals intros)) | fail "")
    refine r_for (fun _ : Unit => ⟨[(5, .lit (.bool false))], [], 0, Try.f17.ntmps⟩) (fun _ => True) (fun _ => 0) () trivial less_to ?_
    intro _ _
    (repeat' first | (refine go_ ?_; ((repeat' first | exact True.intro | refine Two.mk ?_ ?_); all_goals intros)) | fail "")
    all_goals (refine ends_ (hr := ?_); exact noV (fun e => hlen (by rw [e])))

theorem sameTable_fn (a b : DTable) (ha : wfTable a) (hb : wfTable b) : Fn Try.prog 22 [.agg (encTable a), .agg (encTable b)] (.lit (.bool (yes (a = b)))) := by
  have h1 := sameFields_fn a.Rows b.Rows (by have := ha.2.2.1; omega) (by have := hb.2.2.1; omega)
  refine fn_of_run (by kernel_rfl) Try.func22 rfl (by kernel_rfl) ?_
  (repeat' first | (refine s_yes (h1) (ht := ?_) (hff := ?_) <;> intro _ <;> try (exfalso; omega)) | (refine p_yes (h1) (ht := ?_) (hff := ?_) <;> intro _ <;> try (exfalso; omega)) | (refine go_ ?_; ((repeat' first | exact True.intro | refine Two.mk ?_ ?_); all_goals intros)) | fail "")
  all_goals (refine ends_ (hr := ?_))
  all_goals first
    | exact yesV (ext_Table (by assumption) (by assumption) (by assumption))
    | exact noV (fun e => by subst e; first | contradiction | simp_all)
end Go.Proofs.Ythpophgcmgdpjaa
