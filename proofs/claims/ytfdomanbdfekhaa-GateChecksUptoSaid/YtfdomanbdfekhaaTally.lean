/-
  Package tally, and the reference's: what each function answers. No condition.
-/
import Derived.Test.YtfdomanbdfekhaaGo
import Derived.Test.YtfdomanbdfekhaaSeq
import Derived.Test.YtfdomanbdfekhaaUpTo
import Derived.Test.YtfdomanbdfekhaaProg
set_option linter.unusedVariables false
set_option linter.unusedSimpArgs false
set_option linter.unusedVariables false
namespace Go.Proofs.Ytfdomanbdfekhaa
set_option maxRecDepth 100000
attribute [local irreducible] Run RunL QStep GStep Fn Less PL

def tOk (t : DTally) : Prop := 0 ≤ t.Got ∧ t.Got ≤ 1099511627776 ∧ 0 ≤ t.Sent ∧ t.Sent ≤ 1099511627776 ∧ (t.Known = true ∨ t.Sent ≤ 3 * t.Got)
instance (t : DTally) : Decidable (tOk t) := inferInstanceAs (Decidable (_ ∧ _))
def tFlt (t : DTally) : Int := if tOk t then 0 else 9
def tArg (t : DTally) (n : Int) : Int := if tOk t then (if 0 ≤ n ∧ n ≤ 400 then 0 else 6) else 9
def tZero : DTally := ⟨false, 0, 0⟩
def tGot (t : DTally) (n : Int) : DTally × Int := if tArg t n ≠ 0 then (tZero, tArg t n) else if 1099511627776 < t.Got + n then (tZero, 8) else (⟨t.Known, t.Got + n, t.Sent⟩, 0)
def tSend (t : DTally) (n : Int) : DTally × Int := if tArg t n ≠ 0 then (tZero, tArg t n) else if 1099511627776 < t.Sent + n then (tZero, 8) else if t.Known = false ∧ 3 * t.Got < t.Sent + n then (tZero, 15) else (⟨t.Known, t.Got, t.Sent + n⟩, 0)
def tKnow (t : DTally) : DTally × Int := if tOk t then (⟨true, t.Got, t.Sent⟩, 0) else (tZero, 9)

theorem tallyCheck_fn (t : DTally) (hw : wfTally t) : Fn Try.prog 49 [.agg (encTally t)] (.lit (.int .i64 (tFlt t))) := by
  unfold wfTally I64 at hw
  unfold encTally
  cases hb : t.Known
  all_goals
    refine fn_of_run (by kernel_rfl) Try.func49 rfl (by kernel_rfl) ?_
    (repeat' first | (refine go_ ?_; ((repeat' first | exact True.intro | refine Two.mk ?_ ?_); all_goals intros)) | fail "")
    all_goals (refine ends_ (hr := ?_); unfold tFlt)
    all_goals first
      | rw [if_pos (by unfold tOk; rw [hb]; first | omega | (simp; done) | (simp; omega))]
      | rw [if_neg (by unfold tOk; rw [hb]; first | omega | (simp; done) | (simp; omega))]
theorem tallyFaultRef_fn (t : DTally) (hw : wfTally t) : Fn Try.prog 51 [.agg (encTally t)] (.lit (.int .i64 (tFlt t))) := by
  unfold wfTally I64 at hw
  unfold encTally
  cases hb : t.Known
  all_goals
    refine fn_of_run (by kernel_rfl) Try.func51 rfl (by kernel_rfl) ?_
    (repeat' first | (refine s_dec (upTo_fn _ _) (ht := ?_) (hff := ?_) <;> intro _ <;> try (exfalso; omega)) | (refine p_dec (upTo_fn _ _) (ht := ?_) (hff := ?_) <;> intro _ <;> try (exfalso; omega)) | (refine go_ ?_; ((repeat' first | exact True.intro | refine Two.mk ?_ ?_); all_goals intros)) | fail "")
    all_goals (refine ends_ (hr := ?_); unfold tFlt)
    all_goals first
      | rw [if_pos (by unfold tOk; rw [hb]; first | omega | (simp; done) | (simp; omega))]
      | rw [if_neg (by unfold tOk; rw [hb]; first | omega | (simp; done) | (simp; omega))]
theorem tArg_cases (t : DTally) (n : Int) : (tArg t n = 0 ∧ tOk t ∧ 0 ≤ n ∧ n ≤ 400) ∨ tArg t n = 6 ∨ tArg t n = 9 := by
  unfold tArg
  split
  · split
    · exact .inl ⟨rfl, by assumption, by omega⟩
    · exact .inr (.inl rfl)
  · exact .inr (.inr rfl)
theorem tArg0 {t : DTally} {n : Int} (ho : tOk t) (hn : 0 ≤ n ∧ n ≤ 400) : tArg t n = 0 := by unfold tArg; rw [if_pos ho, if_pos hn]
theorem tArg6 {t : DTally} {n : Int} (ho : tOk t) (hn : ¬ (0 ≤ n ∧ n ≤ 400)) : tArg t n = 6 := by unfold tArg; rw [if_pos ho, if_neg hn]
theorem tArg9 {t : DTally} {n : Int} (ho : ¬ tOk t) : tArg t n = 9 := by unfold tArg; rw [if_neg ho]
end Go.Proofs.Ytfdomanbdfekhaa
