/-
  sender.part, and the reference's partFault: what they answer.
-/
import Derived.Test.YtfdomanbdfekhaaGreatGA
import Derived.Test.YtfdomanbdfekhaaGreatGG
import Derived.Test.YtfdomanbdfekhaaGreatGC
import Derived.Test.YtfdomanbdfekhaaGreatAbsB
set_option linter.unusedVariables false
set_option linter.unusedSimpArgs false
set_option linter.unusedVariables false
namespace Go.Proofs.YtfdomanbdfekhaaGreat
set_option maxRecDepth 100000
attribute [local irreducible] Run RunL QStep GStep Fn Less PL FnM

/-- P10.5: what may be told of -/
def partOk (s : DSender) (off n : Int) (fin : Bool) : Prop := (0 ≤ off ∧ off ≤ s.Next ∧ 0 ≤ n ∧ n ≤ s.Next - off) ∧ (fin = true → s.Fin = true ∧ s.Next = s.Data.length ∧ off + n = s.Next)
noncomputable def partFlt (s : DSender) (off n : Int) (fin : Bool) : Int := if sndFlt s ≠ 0 then sndFlt s else if yes (partOk s off n fin) = true then 0 else 13
theorem partFlt_cases (s : DSender) (off n : Int) (fin : Bool) : (sndFlt s = 9 ∧ partFlt s off n fin = 9) ∨ (sndFlt s = 0 ∧ sndOk s ∧ partOk s off n fin ∧ partFlt s off n fin = 0) ∨ (sndFlt s = 0 ∧ sndOk s ∧ ¬ partOk s off n fin ∧ partFlt s off n fin = 13) := by
  unfold partFlt
  rcases sndFlt_cases s with ⟨h0, hok⟩ | ⟨h0, hbad⟩
  · by_cases h : partOk s off n fin
    · exact .inr (.inl ⟨h0, hok, h, by rw [if_neg (by omega), if_pos (yes_of h)]⟩)
    · exact .inr (.inr ⟨h0, hok, h, by rw [if_neg (by omega), if_neg (by rw [no_of h]; decide)]⟩)
  · exact .inl ⟨h0, by rw [if_pos (by omega), h0]⟩
def rZ : DRange := ⟨0, 0⟩
set_option maxHeartbeats 2000000 in
theorem endLost_fn (s : DSender) : Fn Tryz.prog 74 [.agg (encSender s)] (.lit (.bool (s.Fin && decide (s.Next = s.Data.length)))) := by
  obtain ⟨data, f0, next, mx, lost, acked, en, ov⟩ := s
  dsimp only [encSender]
  cases f0
  all_goals simp only [Bool.false_and, Bool.true_and]
  all_goals refine fn_of_run (by kernel_rfl) Tryz.func74 rfl (by kernel_rfl) ?_
  all_goals (repeat' first | (refine go_ ?_; ((repeat' first | exact True.intro | refine Two.mk ?_ ?_); all_goals intros)) | fail "")
  all_goals first
    | (exact endwA_)
    | skip
set_option maxHeartbeats 8000000 in
theorem part_fn (s : DSender) (off n : Int) (fin : Bool) (hw : wfSender s) (ho : I64 off) (hn : I64 n) : Fn Tryz.prog 57 [.agg (encSender s), .lit (.int .i64 off), .lit (.int .i64 n), .lit (.bool fin)]
    (.tup [.agg (encRange (if partFlt s off n fin = 0 then ⟨off, off + n - 1⟩ else rZ)), .lit (.int .i64 (partFlt s off n fin))]) := by
  have h1 := senderCheck_fn s hw
  have h2 := endLost_fn s
  clear hw
  unfold I64 at ho hn
  rcases partFlt_cases s off n fin with ⟨h0, e⟩ | ⟨h0, hok, hp, e⟩ | ⟨h0, hok, hp, e⟩
  · rw [e, if_neg (by decide)]
    rw [h0] at h1
    clear h2
    refine fn_of_run (by kernel_rfl) Tryz.func57 rfl (by kernel_rfl) ?_
    (repeat' first | (refine s_call (h1) (h := ?_)) | (refine p_call (h1) (h := ?_)) | (refine go_ ?_; ((repeat' first | exact True.intro | refine Two.mk ?_ ?_); all_goals intros)) | fail "")
    all_goals first
      | (exact endwA_)
      | skip
  · rw [e, if_pos rfl]
    rw [h0] at h1
    obtain ⟨⟨f1, f2, f3, f4, f5, _, _⟩, hfl, hend⟩ := (sndHead_iff s).1 hok.1.1.1
    clear h0 e hok
    unfold partOk at hp
    obtain ⟨data, f0, next, mx, lost, acked, en, ov⟩ := s
    dsimp only [encSender] at *
    cases f0 <;> cases en <;> cases ov <;> cases fin
    all_goals simp only [sndFl, Bool.false_and, Bool.true_and, Bool.and_false, Bool.and_true, Bool.or_false, Bool.or_true, Bool.false_or, Bool.true_or, Bool.not_false, Bool.not_true, true_implies, false_implies, Bool.false_eq_true, and_true, true_and, false_and, reduceCtorEq] at hfl hend hp h2
    all_goals refine fn_of_run (by kernel_rfl) Tryz.func57 rfl (by kernel_rfl) ?_
    all_goals (repeat' first | (refine s_call (h1) (h := ?_)) | (refine p_call (h1) (h := ?_)) | (refine s_dec (h2) (ht := ?_) (hff := ?_) <;> intro _ <;> try (exfalso; omega)) | (refine p_dec (h2) (ht := ?_) (hff := ?_) <;> intro _ <;> try (exfalso; omega)) | (refine s_call (h2) (h := ?_)) | (refine p_call (h2) (h := ?_)) | (refine go_ ?_; ((repeat' first | exact True.intro | refine Two.mk ?_ ?_); all_goals intros)) | fail "")
    all_goals first
      | (exact endwA_)
      | (exfalso; first | exact hp.2 | omega)
      | skip
  · rw [e, if_neg (by decide)]
    rw [h0] at h1
    obtain ⟨⟨f1, f2, f3, f4, f5, _, _⟩, hfl, hend⟩ := (sndHead_iff s).1 hok.1.1.1
    clear h0 e hok
    unfold partOk at hp
    obtain ⟨data, f0, next, mx, lost, acked, en, ov⟩ := s
    dsimp only [encSender] at *
    cases f0 <;> cases en <;> cases ov <;> cases fin
    all_goals simp only [sndFl, Bool.false_and, Bool.true_and, Bool.and_false, Bool.and_true, Bool.or_false, Bool.or_true, Bool.false_or, Bool.true_or, Bool.not_false, Bool.not_true, true_implies, false_implies, Bool.false_eq_true, and_true, true_and, false_and, reduceCtorEq, and_false, not_false_eq_true] at hfl hend hp h2
    all_goals refine fn_of_run (by kernel_rfl) Tryz.func57 rfl (by kernel_rfl) ?_
    all_goals (repeat' first | (refine s_call (h1) (h := ?_)) | (refine p_call (h1) (h := ?_)) | (refine s_dec (h2) (ht := ?_) (hff := ?_) <;> intro _ <;> try (exfalso; omega)) | (refine p_dec (h2) (ht := ?_) (hff := ?_) <;> intro _ <;> try (exfalso; omega)) | (refine s_call (h2) (h := ?_)) | (refine p_call (h2) (h := ?_)) | (refine go_ ?_; ((repeat' first | exact True.intro | refine Two.mk ?_ ?_); all_goals intros)) | fail "")
    all_goals first
      | (exact endwA_)
      | (exfalso; omega)
      | skip
set_option maxHeartbeats 8000000 in
theorem partFault_fn (s : DSender) (off n : Int) (fin : Bool) (hw : U.wfSender s) (ho : I64 off) (hn : I64 n) : Fn Tryz.prog 77 [.agg (encSender s), .lit (.int .i64 off), .lit (.int .i64 n), .lit (.bool fin)]
    (.lit (.int .i64 (partFlt s off n fin))) := by
  have h1 := senderFault_fn s hw
  clear hw
  unfold I64 at ho hn
  rcases partFlt_cases s off n fin with ⟨h0, e⟩ | ⟨h0, hok, hp, e⟩ | ⟨h0, hok, hp, e⟩
  · rw [e]
    rw [h0] at h1
    refine fn_of_run (by kernel_rfl) Tryz.func77 rfl (by kernel_rfl) ?_
    (repeat' first | (refine s_call (h1) (h := ?_)) | (refine p_call (h1) (h := ?_)) | (refine go_ ?_; ((repeat' first | exact True.intro | refine Two.mk ?_ ?_); all_goals intros)) | fail "")
    all_goals first
      | (exact endwA_)
      | skip
  · rw [e]
    rw [h0] at h1
    obtain ⟨⟨f1, f2, f3, f4, f5, _, _⟩, hfl, hend⟩ := (sndHead_iff s).1 hok.1.1.1
    clear h0 e hok hfl hend
    unfold partOk at hp
    obtain ⟨data, f0, next, mx, lost, acked, en, ov⟩ := s
    dsimp only [encSender] at *
    cases f0 <;> cases fin
    all_goals simp only [true_implies, false_implies, Bool.false_eq_true, and_true, true_and, false_and, reduceCtorEq] at hp
    all_goals refine fn_of_run (by kernel_rfl) Tryz.func77 rfl (by kernel_rfl) ?_
    all_goals (repeat' first | (refine s_call (h1) (h := ?_)) | (refine p_call (h1) (h := ?_)) | (refine s_dec (upTo_fn _ _) (ht := ?_) (hff := ?_) <;> intro _ <;> try (exfalso; omega)) | (refine p_dec (upTo_fn _ _) (ht := ?_) (hff := ?_) <;> intro _ <;> try (exfalso; omega)) | (refine go_ ?_; ((repeat' first | exact True.intro | refine Two.mk ?_ ?_); all_goals intros)) | fail "")
    all_goals first
      | (exact endwA_)
      | (exfalso; first | exact hp.2 | omega)
      | skip
  · rw [e]
    rw [h0] at h1
    obtain ⟨⟨f1, f2, f3, f4, f5, _, _⟩, hfl, hend⟩ := (sndHead_iff s).1 hok.1.1.1
    clear h0 e hok hfl hend
    unfold partOk at hp
    obtain ⟨data, f0, next, mx, lost, acked, en, ov⟩ := s
    dsimp only [encSender] at *
    cases f0 <;> cases fin
    all_goals simp only [true_implies, false_implies, Bool.false_eq_true, and_true, true_and, false_and, reduceCtorEq, and_false, not_false_eq_true] at hp
    all_goals refine fn_of_run (by kernel_rfl) Tryz.func77 rfl (by kernel_rfl) ?_
    all_goals (repeat' first | (refine s_call (h1) (h := ?_)) | (refine p_call (h1) (h := ?_)) | (refine s_dec (upTo_fn _ _) (ht := ?_) (hff := ?_) <;> intro _ <;> try (exfalso; omega)) | (refine p_dec (upTo_fn _ _) (ht := ?_) (hff := ?_) <;> intro _ <;> try (exfalso; omega)) | (refine go_ ?_; ((repeat' first | exact True.intro | refine Two.mk ?_ ?_); all_goals intros)) | fail "")
    all_goals first
      | (exact endwA_)
      | (exfalso; omega)
      | skip
end Go.Proofs.YtfdomanbdfekhaaGreat
