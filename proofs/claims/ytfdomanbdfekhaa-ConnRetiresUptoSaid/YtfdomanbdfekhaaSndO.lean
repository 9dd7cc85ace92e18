/-
  sender.Over: what it answers.
-/
import Derived.Test.YtfdomanbdfekhaaGo
import Derived.Test.YtfdomanbdfekhaaSndC
import Derived.Test.YtfdomanbdfekhaaRgsHol
set_option linter.unusedVariables false
set_option linter.unusedSimpArgs false
set_option linter.unusedVariables false
namespace Go.Proofs.Ytfdomanbdfekhaa
set_option maxRecDepth 100000
attribute [local irreducible] Run RunL QStep GStep Fn Less PL

def overP (s : DSender) : Prop := s.Over = true ∧ (s.Data.length = 0 ∨ s.Acked = [DRange.mk 0 ((s.Data.length : Int) - 1)])
noncomputable def ovB (s : DSender) : Bool := yes (sndOk s ∧ overP s)

theorem one_of {l : List DRange} (h : l.length = 1) : l = [l.getD 0 default] := by
  rcases l with _ | ⟨x, _ | ⟨y, r⟩⟩
  · simp at h
  · rfl
  · simp at h
set_option maxHeartbeats 4000000 in
theorem senderOver_fn (s : DSender) (hw : wfSender s) : Fn Try.prog 63 [.agg (encSender s)] (.tup [.lit (.bool (ovB s)), .lit (.int .i64 (sndFlt s))]) := by
  have h1 := senderCheck_fn s hw
  obtain ⟨w1, w2, w3, w4, w5, w6, w7⟩ := hw
  rcases sndFlt_cases s with ⟨h0, hok⟩ | ⟨h0, hbad⟩
  · rw [h0] at h1 ⊢
    have hb : ovB s = yes (overP s) := by unfold ovB; by_cases h : overP s; rw [yes_of h, yes_of ⟨hok, h⟩]; rw [no_of h, no_of (fun q => h q.2)]
    rw [hb]
    clear hb hok w5 w7
    obtain ⟨data, fin, next, mx, lost, acked, en, ov⟩ := s
    unfold overP
    dsimp only at *
    cases ov
    · rw [no_of (fun h => by cases h.1)]
      refine fn_of_run (by kernel_rfl) Try.func63 rfl (by kernel_rfl) ?_
      (repeat' first | (refine s_call (h1) (h := ?_)) | (refine p_call (h1) (h := ?_)) | (refine go_ ?_; ((repeat' first | exact True.intro | refine Two.mk ?_ ?_); all_goals intros)) | fail "")
      all_goals first
        | exact ends_ (hr := rfl)
        | skip
    · dsimp only [encSender] at h1 ⊢
      refine fn_of_run (by kernel_rfl) Try.func63 rfl (by kernel_rfl) ?_
      (repeat' first | (refine s_call (h1) (h := ?_)) | (refine p_call (h1) (h := ?_)) | (refine go_ ?_; ((repeat' first | exact True.intro | refine Two.mk ?_ ?_); all_goals intros)) | fail "")
      all_goals first
        | (refine ends_ (hr := ?_); rw [yes_of ⟨rfl, .inl (by omega)⟩])
        | (refine ends_ (hr := ?_); rw [yes_of ⟨rfl, .inr (by have h := ‹_ ∧ _›; rw [one_of (l := acked) (by omega), show acked.getD 0 default = DRange.mk 0 ((data.length : Int) - 1) from ext_Range h.1 h.2.1])⟩])
        | (refine ends_ (hr := ?_); rw [no_of (fun h => by rcases h.2 with h | h; omega; (rw [h] at *; simp_all))])
        | skip
  · rw [h0] at h1 ⊢
    rw [show ovB s = false from no_of (fun h => hbad h.1)]
    refine fn_of_run (by kernel_rfl) Try.func63 rfl (by kernel_rfl) ?_
    (repeat' first | (refine s_call (h1) (h := ?_)) | (refine p_call (h1) (h := ?_)) | (refine go_ ?_; ((repeat' first | exact True.intro | refine Two.mk ?_ ?_); all_goals intros)) | fail "")
    all_goals exact ends_ (hr := rfl)
end Go.Proofs.Ytfdomanbdfekhaa
