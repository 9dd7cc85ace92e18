/-
  conn.Begin and the reference's ConnBegun: what each answers. No condition.
-/
import Derived.Test.YtfdomanbdfekhaaGo
import Derived.Test.YtfdomanbdfekhaaUpTo
set_option linter.unusedVariables false
set_option linter.unusedSimpArgs false
set_option linter.unusedVariables false
namespace Go.Proofs.Ytfdomanbdfekhaa
set_option maxRecDepth 100000
attribute [local irreducible] Run RunL QStep GStep Fn Less PL FnM

/-- P18.2 -/
def cnBegR (cl : Bool) (now : Int) : DConn × Int := if 0 ≤ now ∧ now ≤ 1099511627776 then (⟨cl, ⟨0, [], -1, [], []⟩, ⟨400, 0, 0, -1⟩, ⟨700, 0⟩, ⟨700, 0⟩, (if cl = true then 4 else 0), (if cl = true then 0 else 4), 0, [], false, [], now, 0, false, 0⟩, 0) else (default, 6)
def encCnE (r : DConn × Int) : V := .tup [.agg (encConn r.1), .lit (.int .i64 r.2)]
theorem spBegin_fn : Fn Try.prog 110 [] (.agg (encSpace ⟨0, [], -1, [], []⟩)) := by
  refine fn_of_run (by kernel_rfl) Try.func110 rfl (by kernel_rfl) ?_
  (repeat' first | (refine go_ ?_; ((repeat' first | exact True.intro | refine Two.mk ?_ ?_); all_goals intros)) | fail "")
  all_goals (exact endwA_)
theorem paceBegin_fn : Fn Try.prog 111 [] (.agg (encPace ⟨400, 0, 0, -1⟩)) := by
  refine fn_of_run (by kernel_rfl) Try.func111 rfl (by kernel_rfl) ?_
  (repeat' first | (refine go_ ?_; ((repeat' first | exact True.intro | refine Two.mk ?_ ?_); all_goals intros)) | fail "")
  all_goals (exact endwA_)
set_option maxHeartbeats 1000000 in
theorem connBegin_fn (cl : Bool) (now : Int) : Fn Try.prog 67 [.lit (.bool cl), .lit (.int .i64 now)] (encCnE (cnBegR cl now)) := by
  have h1 := spBegin_fn
  have h2 := paceBegin_fn
  unfold cnBegR encCnE
  by_cases h : 0 ≤ now ∧ now ≤ 1099511627776
  · rw [if_pos h]
    cases cl
    all_goals refine fn_of_run (by kernel_rfl) Try.func67 rfl (by kernel_rfl) ?_
    all_goals (repeat' first | (refine s_call (h1) (h := ?_)) | (refine p_call (h1) (h := ?_)) | (refine s_call (h2) (h := ?_)) | (refine p_call (h2) (h := ?_)) | (refine go_ ?_; ((repeat' first | exact True.intro | refine Two.mk ?_ ?_); all_goals intros)) | fail "")
    all_goals first
      | (exact endwA_)
      | skip
  · rw [if_neg h]
    refine fn_of_run (by kernel_rfl) Try.func67 rfl (by kernel_rfl) ?_
    (repeat' first | (refine go_ ?_; ((repeat' first | exact True.intro | refine Two.mk ?_ ?_); all_goals intros)) | fail "")
    all_goals first
      | (exact endwA_)
      | skip
set_option maxHeartbeats 1000000 in
theorem connBegun_fn (cl : Bool) (now : Int) : Fn Try.prog 71 [.lit (.bool cl), .lit (.int .i64 now)] (encCnE (cnBegR cl now)) := by
  unfold cnBegR encCnE
  by_cases h : 0 ≤ now ∧ now ≤ 1099511627776
  · rw [if_pos h]
    cases cl
    all_goals refine fn_of_run (by kernel_rfl) Try.func71 rfl (by kernel_rfl) ?_
    all_goals (repeat' first | (refine s_dec (upTo_fn _ _) (ht := ?_) (hff := ?_) <;> intro _ <;> try (exfalso; omega)) | (refine p_dec (upTo_fn _ _) (ht := ?_) (hff := ?_) <;> intro _ <;> try (exfalso; omega)) | (refine go_ ?_; ((repeat' first | exact True.intro | refine Two.mk ?_ ?_); all_goals intros)) | fail "")
    all_goals first
      | (exact endwA_)
      | skip
  · rw [if_neg h]
    refine fn_of_run (by kernel_rfl) Try.func71 rfl (by kernel_rfl) ?_
    (repeat' first | (refine s_dec (upTo_fn _ _) (ht := ?_) (hff := ?_) <;> intro _ <;> try (exfalso; omega)) | (refine p_dec (upTo_fn _ _) (ht := ?_) (hff := ?_) <;> intro _ <;> try (exfalso; omega)) | (refine go_ ?_; ((repeat' first | exact True.intro | refine Two.mk ?_ ?_); all_goals intros)) | fail "")
    all_goals first
      | (exact endwA_)
      | skip
end Go.Proofs.Ytfdomanbdfekhaa
