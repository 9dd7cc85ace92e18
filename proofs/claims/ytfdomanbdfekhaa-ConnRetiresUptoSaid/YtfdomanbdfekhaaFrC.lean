/-
  frame.Check and the reference's FrameFault: one answer. No condition.
-/
import Derived.Test.YtfdomanbdfekhaaGo
import Derived.Test.YtfdomanbdfekhaaFrP
set_option linter.unusedVariables false
set_option linter.unusedSimpArgs false
set_option linter.unusedVariables false
namespace Go.Proofs.Ytfdomanbdfekhaa
set_option maxRecDepth 100000
attribute [local irreducible] Run RunL QStep GStep Fn Less PL FnM

def mayP (b : Bool) (n : Int) : Prop := 0 ≤ n ∧ n ≤ 4611686018427387903 ∧ (b = true ∨ n = 0)
instance (b : Bool) (n : Int) : Decidable (mayP b n) := inferInstanceAs (Decidable (_ ∧ _))
/-- ranges, the highest first -/
def downQ (l : List DRange) (i : Nat) : Prop := rGood (l.getD i default) ∧ (i = 0 ∨ (l.getD i default).Hi + 1 < (l.getD (i - 1) default).Lo)
/-- P4.2 -/
def frFlt (f : DFrame) : Int :=
  if kOk f.Kind = false then 2 else if 120 < f.Data.length ∨ 6 < f.Ranges.length then 1
  else if ¬ mayP (hasI (hasB f.Kind) 105) f.Id ∨ ¬ mayP (hasI (hasB f.Kind) 111) f.Off ∨ ¬ mayP (hasI (hasB f.Kind) 99 || hasI (hasB f.Kind) 119) f.Code then 6
  else if hasI (hasB f.Kind) 100 = true ∧ 4611686018427387903 < f.Off + f.Data.length then 6
  else if (hasI (hasB f.Kind) 100 = false ∧ 0 < f.Data.length) ∨ (hasI (hasB f.Kind) 102 = false ∧ f.Fin = true) ∨ ¬ (f.Kind = 2 ↔ 0 < f.Ranges.length) ∨ rFlt f.Ranges.reverse ≠ 0 then 3 else 0
/-- the order of the highest first, and of the lowest first -/
theorem rSet_low {l : List DRange} : ∀ {a b : Int}, a ≤ b → rSet b l → rSet a l := by
  intro a b h hs
  cases l with
  | nil => trivial
  | cons r l => exact ⟨hs.1, by have := hs.2.1; omega, hs.2.2⟩
theorem rSet_snoc {r : DRange} : ∀ {l : List DRange} {a : Int}, rSet a (l ++ [r]) ↔ rSet a l ∧ rGood r ∧ a + 2 ≤ r.Lo ∧ ∀ x ∈ l, x.Hi + 2 ≤ r.Lo := by
  intro l
  induction l with
  | nil => intro a; simp [rSet]
  | cons y l ih =>
    intro a
    simp only [List.cons_append, rSet, ih, List.mem_cons]
    constructor
    · rintro ⟨h1, h2, h3, h4, h5, h6⟩
      refine ⟨⟨h1, h2, h3⟩, h4, ?_, ?_⟩
      · unfold rGood at h1; omega
      · rintro x (rfl | hx)
        · exact h5
        · exact h6 x hx
    · rintro ⟨⟨h1, h2, h3⟩, h4, h5, h6⟩
      exact ⟨h1, h2, h3, h4, h6 y (.inl rfl), fun x hx => h6 x (.inr hx)⟩
/-- what stands behind is no higher than the first -/
def downL : List DRange → Prop
  | [] => True
  | [r] => rGood r
  | r :: x :: l => rGood r ∧ x.Hi + 2 ≤ r.Lo ∧ downL (x :: l)
theorem downL_top {r : DRange} : ∀ {l : List DRange}, downL (r :: l) → ∀ x ∈ l, x.Hi + 2 ≤ r.Lo := by
  intro l
  induction l generalizing r with
  | nil => intro _ x hx; cases hx
  | cons y l ih =>
    intro h x hx
    rcases List.mem_cons.1 hx with rfl | hx
    · exact h.2.1
    · have h1 := ih h.2.2 x hx
      have h2 : rGood y := by
        have := h.2.2
        cases l with
        | nil => exact this
        | cons _ _ => exact this.1
      have := h.2.1
      unfold rGood at h2
      omega
theorem rSet_of_down : ∀ {l : List DRange}, downL l ↔ rSet (-2) l.reverse := by
  intro l
  induction l with
  | nil => simp [downL, rSet]
  | cons r l ih =>
    rw [List.reverse_cons, rSet_snoc, ← ih]
    cases l with
    | nil => simp only [downL, List.reverse_nil, List.not_mem_nil, false_implies, implies_true, and_true, true_and]; constructor
             · intro h; refine ⟨h, ?_⟩; unfold rGood at h; omega
             · intro h; exact h.1
    | cons x l =>
      constructor
      · intro h
        have h1 : rGood r := h.1
        refine ⟨h.2.2, h1, ?_, fun y hy => downL_top h y (List.mem_reverse.1 hy)⟩
        unfold rGood at h1; omega
      · rintro ⟨h1, h2, h3, h4⟩
        exact ⟨h2, h4 x (by simp), h1⟩
theorem downQ_of (l : List DRange) : AllTo (downQ l) l.length ↔ downL l := by
  induction l with
  | nil => simp [downL, AllTo]
  | cons r l ih =>
    have hs : ∀ i, downQ (r :: l) (i + 1) ↔ rGood (l.getD i default) ∧ (l.getD i default).Hi + 1 < ((r :: l).getD i default).Lo := fun i => by
      unfold downQ; simp
    constructor
    · intro h
      have h0 := h 0 (by simp)
      have h0g : rGood r := h0.1
      have ht : AllTo (downQ l) l.length := fun i hi => by
        have := (hs i).1 (h (i + 1) (by simpa using hi))
        refine ⟨this.1, ?_⟩
        by_cases hi0 : i = 0
        · exact .inl hi0
        · refine .inr ?_
          have h2 := this.2
          obtain ⟨j, rfl⟩ : ∃ j, i = j + 1 := ⟨i - 1, by omega⟩
          simpa using h2
      have hd := ih.1 ht
      cases l with
      | nil => exact h0g
      | cons x l =>
        have := (hs 0).1 (h 1 (by simp))
        exact ⟨h0g, by have := this.2; simp at this; omega, hd⟩
    · intro h
      have h0g : rGood r := by cases l with
        | nil => exact h
        | cons _ _ => exact h.1
      have hd : downL l := by cases l with
        | nil => trivial
        | cons _ _ => exact h.2.2
      have ht := ih.2 hd
      intro i hi
      cases i with
      | zero => exact ⟨h0g, .inl rfl⟩
      | succ i =>
        have hil : i < l.length := by simpa using hi
        refine (hs i).2 ⟨(ht i hil).1, ?_⟩
        have := downL_top h _ (getD_mem hil)
        cases i with
        | zero => simp at *; omega
        | succ j =>
          have h3 := (ht (j + 1) hil).2
          rcases h3 with h3 | h3
          · omega
          · simpa using h3
/-- the parts' order -/
theorem told_iff (l : List DRange) : AllTo (downQ l) l.length ↔ rFlt l.reverse = 0 := by
  rw [downQ_of, rSet_of_down]
  unfold rFlt
  split
  · simp [*]
  · simp [*]
set_option maxHeartbeats 4000000 in
theorem frameCheck_fn (f : DFrame) (hw : wfFrame f) : Fn Try.prog 96 [.agg (encFrame f)] (.lit (.int .i64 (frFlt f))) := by
  obtain ⟨w1, w2, w3, w4, w5, w6, w7⟩ := hw
  have h1 := partsOf_fn f.Kind
  have h2 := frameTold_fn f.Ranges w6 w5
  unfold frFlt
  unfold encPs at h1
  unfold I64 at *
  generalize hasI (hasB f.Kind) 105 = hi at *
  generalize hasI (hasB f.Kind) 111 = ho at *
  generalize (hasI (hasB f.Kind) 99 || hasI (hasB f.Kind) 119) = hc at *
  generalize hasI (hasB f.Kind) 100 = hd at *
  generalize hasI (hasB f.Kind) 102 = hf at *
  generalize hasI (hasB f.Kind) 119 = hx at *
  generalize kOk f.Kind = hk at *
  generalize rFlt f.Ranges.reverse = q at *
  have e : encFrame f = [.lit (.int .i64 f.Kind), .lit (.int .i64 f.Id), .lit (.int .i64 f.Off), .lit (.bool f.Fin), .lit (.int .i64 f.Code), .ro (f.Ranges.map encRange), .ro (f.Data.map encB)] := rfl
  rw [e]
  generalize f.Fin = fin
  cases hk
  · rw [if_pos rfl]
    refine fn_of_run (by kernel_rfl) Try.func96 rfl (by kernel_rfl) ?_
    (repeat' first | (refine s_call (h1) (h := ?_)) | (refine p_call (h1) (h := ?_)) | (refine go_ ?_; ((repeat' first | exact True.intro | refine Two.mk ?_ ?_); all_goals intros)) | fail "")
    all_goals exact ends_ (hr := rfl)
  · rw [if_neg (by simp)]
    refine fn_of_run (by kernel_rfl) Try.func96 rfl (by kernel_rfl) ?_
    (repeat' first | (refine s_call (h1) (h := ?_)) | (refine p_call (h1) (h := ?_)) | (refine s_dec (may_fn _ _) (ht := ?_) (hff := ?_) <;> intro _ <;> try (exfalso; omega)) | (refine p_dec (may_fn _ _) (ht := ?_) (hff := ?_) <;> intro _ <;> try (exfalso; omega)) | (refine goU_ 8 ?_; ((repeat' first | exact True.intro | refine Two.mk ?_ ?_); all_goals intros)) | fail "")
    · refine ends_ (hr := ?_)
      rw [if_pos (by omega)]
    · refine ends_ (hr := ?_)
      rw [if_pos (by omega)]
    all_goals first
      | (refine ends_ (hr := ?_); rw [if_neg (by omega), if_pos (by first | exact .inl (by assumption) | exact .inr (.inl (by assumption)) | exact .inr (.inr (by assumption)))])
      | skip
    rw [if_neg (by omega), if_neg (by rintro (h | h | h) <;> exact h (by assumption))]
    have g3 : mayP ho f.Off := by assumption
    unfold mayP at g3
    have g4 := g3.1
    have g5 := g3.2.1
    cases hd <;> cases hf <;> cases fin
    all_goals (repeat' first | (refine s_dec (h2) (ht := ?_) (hff := ?_) <;> intro _ <;> try (exfalso; omega)) | (refine p_dec (h2) (ht := ?_) (hff := ?_) <;> intro _ <;> try (exfalso; omega)) | (refine go_ ?_; ((repeat' first | exact True.intro | refine Two.mk ?_ ?_); all_goals intros)) | fail "")
    all_goals refine ends_ (hr := ?_)
    all_goals simp only [reduceCtorEq, false_and, true_and, false_or, and_false, and_true, or_false, not_true_eq_false, not_false_eq_true, or_true, true_or, if_true, if_false]
    all_goals first
      | (rw [if_pos (by omega)] <;> rfl)
      | (rw [if_neg (by omega)] <;> rfl)
      | (rw [if_neg (by omega), if_pos (by omega)] <;> rfl)
      | (rw [if_neg (by omega), if_neg (by omega)] <;> rfl)
      | rfl
end Go.Proofs.Ytfdomanbdfekhaa
