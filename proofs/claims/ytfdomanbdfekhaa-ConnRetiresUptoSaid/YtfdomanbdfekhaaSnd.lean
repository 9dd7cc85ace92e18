/-
  A sender's state: what sender.Check and the reference answer. The first part: ranges that overlap.
-/
import Derived.Test.YtfdomanbdfekhaaGo
import Derived.Test.YtfdomanbdfekhaaRgsCut
import Derived.Test.YtfdomanbdfekhaaUpTo
set_option linter.unusedVariables false
set_option linter.unusedSimpArgs false
set_option linter.unusedVariables false
namespace Go.Proofs.Ytfdomanbdfekhaa
set_option maxRecDepth 100000
attribute [local irreducible] Run RunL QStep GStep Fn Less PL

def ovl (x y : DRange) : Prop := max x.Lo y.Lo ≤ min x.Hi y.Hi
/-- no range of the first list that overlaps one of the second -/
def apartRow (m : List DRange) (x : DRange) : Prop := AllTo (fun j => ¬ ovl x (m.getD j default)) m.length
def apartL (l m : List DRange) : Prop := AllTo (fun i => apartRow m (l.getD i default)) l.length

set_option maxHeartbeats 2000000 in
theorem overlap_fn (l m : List DRange) (hl : l.length * 16 ≤ 140737488351232) (hm : m.length * 16 ≤ 140737488351232) : Fn Try.prog 141 [.ro (l.map encRange), .ro (m.map encRange)] (.lit (.bool (yes (¬ apartL l m)))) := by
  refine fn_of_run (by kernel_rfl) Try.func141 rfl (by kernel_rfl) ?_
  (repeat' first | (refine go_ ?_; ((repeat' first | exact True.intro | refine Two.mk ?_ ?_); all_goals intros)) | fail "")
  refine r_for (fun k : Nat => ⟨[(1, .ro (m.map encRange)), (9, .ro (l.map encRange)), (10, .lit (.int .i64 l.length)), (11, .lit (.int .i64 k))], [], 0, Try.f141.ntmps⟩)
    (fun k => k ≤ l.length ∧ AllTo (fun i => apartRow m (l.getD i default)) k) (fun k => l.length - k) 0 ⟨Nat.zero_le _, allTo0⟩ less_to ?_
  rintro k ⟨hk, ha⟩
  by_cases hkn : k < l.length
  · (repeat' first | (refine go_ ?_; ((repeat' first | exact True.intro | refine Two.mk ?_ ?_); all_goals intros)) | fail "")
    refine r_for (fun j : Nat => ⟨[(1, .ro (m.map encRange)), (9, .ro (l.map encRange)), (10, .lit (.int .i64 l.length)), (11, .lit (.int .i64 k)), (6, .ptr 0 0 0 0), (15, .ro (m.map encRange)), (16, .lit (.int .i64 m.length)), (17, .lit (.int .i64 j))], [(0, some (.box 153 (encRange (l.getD k default))))], 1, Try.f141.ntmps⟩)
      (fun j => j ≤ m.length ∧ AllTo (fun j => ¬ ovl (l.getD k default) (m.getD j default)) j) (fun j => m.length - j) 0 ⟨Nat.zero_le _, allTo0⟩ less_to ?_
    rintro j ⟨hj, hb⟩
    by_cases hjn : j < m.length
    · (repeat' first | (refine go_ ?_; ((repeat' first | exact True.intro | refine Two.mk ?_ ?_); all_goals intros)) | fail "")
      all_goals first
        | (refine ⟨j + 1, ?_, ?_, ?_⟩; rotate_left 2; (exact lessA_); (focus (omega)); (focus (exact ⟨hjn, allTo_succ.2 ⟨hb, by unfold ovl; assumption⟩⟩)))
        | (refine ends_ (hr := ?_); exact yesV (fun h => h k hkn j hjn (by unfold ovl; assumption)))
    · (repeat' first | (refine go_ ?_; ((repeat' first | exact True.intro | refine Two.mk ?_ ?_); all_goals intros)) | fail "")
      all_goals (refine ⟨k + 1, ?_, ?_, ?_⟩; rotate_left 2; (exact lessA_); (focus (omega)); (focus (exact ⟨hkn, allTo_succ.2 ⟨ha, fun i hi => hb i (by omega)⟩⟩)))
  · (repeat' first | (refine go_ ?_; ((repeat' first | exact True.intro | refine Two.mk ?_ ?_); all_goals intros)) | fail "")
    all_goals (refine ends_ (hr := ?_); exact noV (fun h => h fun i hi => ha i (by omega)))
end Go.Proofs.Ytfdomanbdfekhaa
