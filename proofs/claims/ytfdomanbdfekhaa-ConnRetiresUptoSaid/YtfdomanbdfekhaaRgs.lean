/-
  Sets of numbers: ranges.Check and the reference's, one range out of a set, and the laws' sameRanges. No condition.
-/
import Derived.Test.YtfdomanbdfekhaaGo
import Derived.Test.YtfdomanbdfekhaaSeq
import Derived.Test.YtfdomanbdfekhaaUpTo
import Derived.Test.YtfdomanbdfekhaaProg
set_option linter.unusedVariables false
set_option linter.unusedSimpArgs false
set_option linter.unusedVariables false
namespace Go.Proofs.Ytfdomanbdfekhaa
set_option maxRecDepth 100000
attribute [local irreducible] Run RunL QStep GStep Fn Less PL

def rGood (r : DRange) : Prop := 0 ≤ r.Lo ∧ r.Lo ≤ r.Hi ∧ r.Hi ≤ 4611686018427387903
instance (r : DRange) : Decidable (rGood r) := inferInstanceAs (Decidable (_ ∧ _))
/-- a set behind a number -/
def rSet : Int → List DRange → Prop
  | _, [] => True
  | a, r :: l => rGood r ∧ a + 2 ≤ r.Lo ∧ rSet r.Hi l
instance rSetDec : ∀ (a : Int) (l : List DRange), Decidable (rSet a l)
  | _, [] => inferInstanceAs (Decidable True)
  | a, r :: l => by
    have := rSetDec r.Hi l
    exact inferInstanceAs (Decidable (rGood r ∧ a + 2 ≤ r.Lo ∧ rSet r.Hi l))
def rFlt (l : List DRange) : Int := if rSet (-2) l then 0 else 3
def rgFlt (l : List DRange) (r : DRange) : Int := if rFlt l ≠ 0 then rFlt l else if rGood r then 0 else 6

theorem good_fn (r : DRange) : Fn Try.prog 166 [.agg (encRange r)] (.lit (.bool (decide (rGood r)))) := by
  refine fn_of_run (by kernel_rfl) Try.func166 rfl (by kernel_rfl) ?_
  (repeat' first | (refine go_ ?_; ((repeat' first | exact True.intro | refine Two.mk ?_ ?_); all_goals intros)) | fail "")
  all_goals (refine ends_ (hr := ?_))
  all_goals first
    | rw [decide_eq_true (by unfold rGood; omega)]
    | rw [decide_eq_false (by unfold rGood; omega)]
theorem isRange_fn (r : DRange) : Fn Try.prog 143 [.agg (encRange r)] (.lit (.bool (decide (rGood r)))) := by
  refine fn_of_run (by kernel_rfl) Try.func143 rfl (by kernel_rfl) ?_
  (repeat' first | (refine s_dec (upTo_fn _ _) (ht := ?_) (hff := ?_) <;> intro _ <;> try (exfalso; omega)) | (refine p_dec (upTo_fn _ _) (ht := ?_) (hff := ?_) <;> intro _ <;> try (exfalso; omega)) | (refine go_ ?_; ((repeat' first | exact True.intro | refine Two.mk ?_ ?_); all_goals intros)) | fail "")
  all_goals (refine ends_ (hr := ?_))
  all_goals first
    | rw [decide_eq_true (by unfold rGood; omega)]
    | rw [decide_eq_false (by unfold rGood; omega)]
def lastHi (l : List DRange) (k : Nat) : Int := if k = 0 then -2 else (l.getD (k - 1) default).Hi
theorem rSet_drop {l : List DRange} {k : Nat} {a : Int} (h : k < l.length) : rSet a (l.drop k) ↔ rGood (l.getD k default) ∧ a + 2 ≤ (l.getD k default).Lo ∧ rSet (lastHi l (k + 1)) (l.drop (k + 1)) := by
  rw [drop_cons h]; unfold lastHi; rw [if_neg (by omega), Nat.add_sub_cancel]; rfl
theorem rangesCheck_fn (l : List DRange) (hw : ∀ y, y ∈ l → wfRange y) (hl : l.length * 16 ≤ 140737488355312) : Fn Try.prog 134 [.ro (l.map encRange)] (.lit (.int .i64 (rFlt l))) := by
  refine fn_of_run (by kernel_rfl) Try.func134 rfl (by kernel_rfl) ?_
  (repeat' first | (refine go_ ?_; ((repeat' first | exact True.intro | refine Two.mk ?_ ?_); all_goals intros)) | fail "")
  refine r_for (fun k : Nat => ⟨[(0, .ro (l.map encRange)), (5, .ro (l.map encRange)), (6, .lit (.int .i64 l.length)), (7, .lit (.int .i64 k))], [], 0, Try.f134.ntmps⟩)
    (fun k => k ≤ l.length ∧ (rSet (-2) l ↔ rSet (lastHi l k) (l.drop k)) ∧ -2 ≤ lastHi l k ∧ lastHi l k ≤ 4611686018427387903) (fun k => l.length - k) 0 ⟨Nat.zero_le _, by simp [lastHi], by simp [lastHi], by simp [lastHi]⟩ less_to ?_
  rintro k ⟨hk, hi, hb1, hb2⟩
  by_cases hkn : k < l.length
  · have hd := rSet_drop (a := lastHi l k) hkn
    have hwk := hw _ (getD_mem hkn)
    unfold wfRange I64 at hwk
    have hlast : lastHi l (k + 1) = (l.getD k default).Hi := by unfold lastHi; rw [if_neg (by omega), Nat.add_sub_cancel]
    by_cases hk0 : k = 0
    · have hz : lastHi l k = -2 := by unfold lastHi; rw [if_pos hk0]
      (repeat' first | (refine s_dec (good_fn _) (ht := ?_) (hff := ?_) <;> intro _ <;> try (exfalso; omega)) | (refine p_dec (good_fn _) (ht := ?_) (hff := ?_) <;> intro _ <;> try (exfalso; omega)) | (refine go_ ?_; ((repeat' first | exact True.intro | refine Two.mk ?_ ?_); all_goals intros)) | fail "")
      all_goals first
        | (refine ends_ (hr := ?_); unfold rFlt; rw [if_neg (fun h => ?_)]; have := hd.1 (hi.1 h); unfold rGood at *; omega)
        | (refine ⟨k + 1, ?_, ?_, ?_⟩; rotate_left 2; (exact lessA_); (focus (omega)); (focus (have hg : rGood (l.getD k default) := (by assumption); unfold rGood at hg; refine ⟨hkn, ⟨fun h => (hd.1 (hi.1 h)).2.2, fun h => hi.2 (hd.2 ⟨by assumption, ?_, h⟩)⟩, ?_, ?_⟩ <;> omega)))
    · have hz : lastHi l k = (l.getD (k - 1) default).Hi := by unfold lastHi; rw [if_neg hk0]
      rw [hz] at hd hb1 hb2
      (repeat' first | (refine s_dec (good_fn _) (ht := ?_) (hff := ?_) <;> intro _ <;> try (exfalso; omega)) | (refine p_dec (good_fn _) (ht := ?_) (hff := ?_) <;> intro _ <;> try (exfalso; omega)) | (refine go_ ?_; ((repeat' first | exact True.intro | refine Two.mk ?_ ?_); all_goals intros)) | fail "")
      all_goals first
        | (refine ends_ (hr := ?_); unfold rFlt; rw [if_neg (fun h => ?_)]; rw [hz] at hi; have := hd.1 (hi.1 h); unfold rGood at *; omega)
        | (refine ⟨k + 1, ?_, ?_, ?_⟩; rotate_left 2; (exact lessA_); (focus (omega)); (focus (have hg : rGood (l.getD k default) := (by assumption); unfold rGood at hg; rw [hz] at hi; refine ⟨hkn, ⟨fun h => (hd.1 (hi.1 h)).2.2, fun h => hi.2 (hd.2 ⟨by assumption, ?_, h⟩)⟩, ?_, ?_⟩ <;> omega)))
  · (repeat' first | (refine go_ ?_; ((repeat' first | exact True.intro | refine Two.mk ?_ ?_); all_goals intros)) | fail "")
    all_goals (refine ends_ (hr := ?_); unfold rFlt; rw [if_pos (hi.2 (by rw [List.drop_eq_nil_of_le (by omega)]; trivial))])
set_option maxHeartbeats 2000000 in
theorem sameRanges_fn (l m : List DRange) (hl : l.length * 16 ≤ 140737488355328) (hm : m.length * 16 ≤ 140737488355328) : Fn Try.prog 106 [.ro (l.map encRange), .ro (m.map encRange)] (.lit (.bool (yes (l = m)))) := by
  by_cases hlen : l.length = m.length
  · refine fn_of_run (by kernel_rfl) Try.func106 rfl (by kernel_rfl) ?_
    (repeat' first | (refine go_ ?_; ((repeat' first | exact True.intro | refine Two.mk ?_ ?_); all_goals intros)) | fail "")
    refine r_for (fun x : Nat × Bool => ⟨[(0, .ro (l.map encRange)), (1, .ro (m.map encRange)), (5, .lit (.bool x.2)), (6, .lit (.int .i64 x.1))], [], 0, Try.f106.ntmps⟩)
      (fun x => Along l m (l = m) x.1 x.2) (fun x => l.length - x.1) (0, true) ⟨Nat.zero_le _, fun _ => ⟨hlen, rfl⟩, fun h => by cases h⟩ less_to ?_
    rintro ⟨k, ok⟩ ⟨hk, hs, hn⟩
    dsimp only at hk hs hn ⊢
    cases ok
    · (repeat' first | (refine go_ ?_; ((repeat' first | exact True.intro | refine Two.mk ?_ ?_); all_goals intros)) | fail "")
      all_goals (refine ends_ (hr := ?_); exact noV (hn rfl))
    · obtain ⟨_, ht⟩ := hs rfl
      by_cases hkn : k < l.length
      · skip
        (repeat' first | (refine go_ ?_; ((repeat' first | exact True.intro | refine Two.mk ?_ ?_); all_goals intros)) | fail "")
        all_goals first
          | (refine ⟨(k + 1, true), ?_, ?_, ?_⟩; rotate_left 2; (exact lessA_); (focus (dsimp only; omega)); (focus (exact ⟨hkn, fun _ => ⟨hlen, take_same hkn (by omega) ht (by have h := ‹_ ∧ _›; exact ext_Range h.1 h.2.1)⟩, fun h => by cases h⟩)))
          | (refine ⟨(k + 1, false), ?_, ?_, ?_⟩; rotate_left 2; (exact lessA_); (focus (dsimp only; omega)); (focus (exact ⟨hkn, fun h => (by cases h), fun _ => ne_getD (k := k) (by intro e; simp_all)⟩)))
      · (repeat' first | (refine go_ ?_; ((repeat' first | exact True.intro | refine Two.mk ?_ ?_); all_goals intros)) | fail "")
        all_goals (refine ends_ (hr := ?_); exact yesV (take_all (by omega) (by omega) ht))
  · refine fn_of_run (by kernel_rfl) Try.func106 rfl (by kernel_rfl) ?_
    (repeat' first | (refine go_ ?_; ((repeat' first | exact True.intro | refine Two.mk ?_ ?_); all_goals intros)) | fail "")
    refine r_for (fun _ : Unit => ⟨[(5, .lit (.bool false))], [], 0, Try.f106.ntmps⟩) (fun _ => True) (fun _ => 0) () trivial less_to ?_
    intro _ _
    (repeat' first | (refine go_ ?_; ((repeat' first | exact True.intro | refine Two.mk ?_ ?_); all_goals intros)) | fail "")
    all_goals (refine ends_ (hr := ?_); exact noV (fun e => hlen (by rw [e])))

end Go.Proofs.Ytfdomanbdfekhaa
