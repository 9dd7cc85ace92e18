/-
  sender.Grant, and the reference's SenderWritten and SenderGranted: what they answer.
-/
import Derived.Test.YtfdomanbdfekhaaGo
import Derived.Test.YtfdomanbdfekhaaSndW
import Derived.Test.YtfdomanbdfekhaaSndF
import Derived.Test.YtfdomanbdfekhaaUpTo
set_option linter.unusedVariables false
set_option linter.unusedSimpArgs false
set_option linter.unusedVariables false
namespace Go.Proofs.Ytfdomanbdfekhaa
set_option maxRecDepth 100000
attribute [local irreducible] Run RunL QStep GStep Fn Less PL FnM

/-- P10.3 -/
noncomputable def grR (s : DSender) (n : Int) : DSender × Int :=
  if sndFlt s ≠ 0 then (sndZ, sndFlt s) else if 0 ≤ n ∧ n ≤ 4611686018427387903 then ({ s with Max := max s.Max n }, 0) else (sndZ, 6)
set_option maxHeartbeats 4000000 in
theorem senderWritten_fn (s : DSender) (b : List UInt8) (fin : Bool) (hw : U.wfSender s) (hb : b.length ≤ 4294967296) : Fn Try.prog 61 [.agg (encSender s), .ro (b.map encB), .lit (.bool fin)] (.tup [.agg (encSender (wrR s b fin).1), .lit (.int .i64 (wrR s b fin).2)]) := by
  have h1 := senderFault_fn s hw
  have w1 := hw.1
  clear hw
  unfold wrR
  rcases sndFlt_cases s with ⟨h0, hok⟩ | ⟨h0, hbad⟩
  · rw [h0] at h1
    rw [if_neg (by omega)]
    have hd : s.Data.length ≤ 600 := hok.1.1.1.1
    clear hok h0
    obtain ⟨data, f0, next, mx, lost, acked, en, ov⟩ := s
    dsimp only [encSender] at *
    cases f0
    · rw [if_neg (by decide)]
      by_cases hl : 600 < data.length + b.length
      · rw [if_pos hl]
        refine fn_of_run (by kernel_rfl) Try.func61 rfl (by kernel_rfl) ?_
        (repeat' first | (refine s_call (h1) (h := ?_)) | (refine p_call (h1) (h := ?_)) | (refine go_ ?_; ((repeat' first | exact True.intro | refine Two.mk ?_ ?_); all_goals intros)) | fail "")
        all_goals first
          | (exact endwA_)
          | skip
      · rw [if_neg hl]
        refine fn_of_run (by kernel_rfl) Try.func61 rfl (by kernel_rfl) ?_
        (repeat' first | (refine s_call (h1) (h := ?_)) | (refine p_call (h1) (h := ?_)) | (refine go_ ?_; ((repeat' first | exact True.intro | refine Two.mk ?_ ?_); all_goals intros)) | fail "")
        all_goals first
          | (exact endwA_)
          | skip
    · rw [if_pos rfl]
      refine fn_of_run (by kernel_rfl) Try.func61 rfl (by kernel_rfl) ?_
      (repeat' first | (refine s_call (h1) (h := ?_)) | (refine p_call (h1) (h := ?_)) | (refine go_ ?_; ((repeat' first | exact True.intro | refine Two.mk ?_ ?_); all_goals intros)) | fail "")
      all_goals first
        | (exact endwA_)
        | skip
  · rw [h0] at h1 ⊢
    rw [if_pos (by decide)]
    refine fn_of_run (by kernel_rfl) Try.func61 rfl (by kernel_rfl) ?_
    (repeat' first | (refine s_call (h1) (h := ?_)) | (refine p_call (h1) (h := ?_)) | (refine go_ ?_; ((repeat' first | exact True.intro | refine Two.mk ?_ ?_); all_goals intros)) | fail "")
    all_goals first
      | (exact endwA_)
      | skip
end Go.Proofs.Ytfdomanbdfekhaa
