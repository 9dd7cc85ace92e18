/-
  pace.Lost and the reference's: what each answers. No condition.
-/
import Derived.Test.YthpophgcmgdpjaaGo
import Derived.Test.YthpophgcmgdpjaaSeq
import Derived.Test.YthpophgcmgdpjaaUpTo
import Derived.Test.YthpophgcmgdpjaaProg
set_option linter.unusedVariables false
set_option linter.unusedSimpArgs false
set_option linter.unusedVariables false
namespace Go.Proofs.Ythpophgcmgdpjaa
set_option maxRecDepth 100000
attribute [local irreducible] Run RunL QStep GStep Fn Less PL

def paceOk (p : DPace) : Prop := 200 ≤ p.Window ∧ p.Window ≤ 1099511627776 ∧ 0 ≤ p.Thresh ∧ p.Thresh ≤ 1099511627776 ∧ 0 ≤ p.Flying ∧ p.Flying ≤ 1099511627776 ∧ -1 ≤ p.Since ∧ p.Since ≤ 1099511627776
instance (p : DPace) : Decidable (paceOk p) := inferInstanceAs (Decidable (_ ∧ _))
def paceFlt (p : DPace) : Int := if paceOk p then 0 else 9
def inM (x : Int) : Prop := 0 ≤ x ∧ x ≤ 1099511627776
instance (x : Int) : Decidable (inM x) := inferInstanceAs (Decidable (_ ∧ _))
def paceArg (p : DPace) (l : List Int) : Int := if paceOk p then (if ∀ x ∈ l, inM x then 0 else 6) else 9

theorem paceCheck_fn (p : DPace) : Fn Try.prog 115 [.agg (encPace p)] (.lit (.int .i64 (paceFlt p))) := by
  refine fn_of_run (by kernel_rfl) Try.func115 rfl (by kernel_rfl) ?_
  (repeat' first | (refine go_ ?_; ((repeat' first | exact True.intro | refine Two.mk ?_ ?_); all_goals intros)) | fail "")
  all_goals (refine ends_ (hr := ?_); unfold paceFlt)
  all_goals first
    | rw [if_pos (by unfold paceOk; omega)]
    | rw [if_neg (by unfold paceOk; omega)]
theorem paceFaultRef_fn (p : DPace) (hw : wfPace p) : Fn Try.prog 122 [.agg (encPace p)] (.lit (.int .i64 (paceFlt p))) := by
  unfold wfPace I64 at hw
  have hs : p.Since ≠ 9223372036854775807 ∨ (p.Since = 9223372036854775807 ∧ IntKind.i64.wrap (p.Since + 1) = -9223372036854775808) := by
    by_cases h : p.Since = 9223372036854775807
    · right; rw [h]; exact ⟨rfl, rfl⟩
    · exact .inl h
  rcases hs with hs | hs
  all_goals
    refine fn_of_run (by kernel_rfl) Try.func122 rfl (by kernel_rfl) ?_
    (repeat' first | (refine s_dec (upTo_fn _ _) (ht := ?_) (hff := ?_) <;> intro _ <;> try (exfalso; omega)) | (refine p_dec (upTo_fn _ _) (ht := ?_) (hff := ?_) <;> intro _ <;> try (exfalso; omega)) | (refine go_ ?_; ((repeat' first | exact True.intro | refine Two.mk ?_ ?_); all_goals intros)) | fail "")
    all_goals (refine ends_ (hr := ?_); unfold paceFlt)
    all_goals first
      | rw [if_pos (by unfold paceOk; omega)]
      | rw [if_neg (by unfold paceOk; omega)]

/-- P12.6 -/
def paceLostV (p : DPace) (n s t : Int) : DPace × Int :=
  if paceArg p [n, s, t] ≠ 0 then (⟨0, 0, 0, 0⟩, paceArg p [n, s, t])
  else if p.Flying < n then (⟨0, 0, 0, 0⟩, 13)
  else if s ≤ p.Since then (⟨p.Window, p.Thresh, p.Flying - n, p.Since⟩, 0)
  else (⟨max (p.Window / 2) 200, max (p.Window / 2) 200, p.Flying - n, max t s⟩, 0)
theorem paceArg_ok {p : DPace} {l : List Int} (h : paceArg p l = 0) : paceOk p ∧ ∀ x ∈ l, inM x := by
  unfold paceArg at h
  split at h
  · rename_i h1
    split at h
    · rename_i h2; exact ⟨h1, h2⟩
    · omega
  · omega
theorem paceArg_cases (p : DPace) (l : List Int) : paceArg p l = 0 ∨ paceArg p l = 6 ∨ paceArg p l = 9 := by
  unfold paceArg; split
  · split
    · exact .inl rfl
    · exact .inr (.inl rfl)
  · exact .inr (.inr rfl)
end Go.Proofs.Ythpophgcmgdpjaa
