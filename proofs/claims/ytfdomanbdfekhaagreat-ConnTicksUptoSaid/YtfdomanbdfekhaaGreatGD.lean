/-
  SEVERAL TEXTS IN ONE: each with its own comment.
-/
import Derived.Test.YtfdomanbdfekhaaGreatGA
import Derived.Test.YtfdomanbdfekhaaGreatGC
import Derived.Test.YtfdomanbdfekhaaGreatProg
/-
  flow.Check and the reference's FlowFault: what each answers. No condition.
-/
set_option linter.unusedVariables false
set_option linter.unusedSimpArgs false
set_option linter.unusedVariables false
namespace Go.Proofs.YtfdomanbdfekhaaGreat
set_option maxRecDepth 100000
attribute [local irreducible] Run RunL QStep GStep Fn Less PL FnM

/-- P9.1 -/
def flwOk (f : DFlow) : Prop := 0 ≤ f.Used ∧ f.Used ≤ f.Max ∧ f.Max ≤ 4611686018427387903
instance (f : DFlow) : Decidable (flwOk f) := inferInstanceAs (Decidable (_ ∧ _ ∧ _))
def flwFlt (f : DFlow) : Int := if flwOk f then 0 else 9
theorem flwFlt_t {f : DFlow} (h : flwOk f) : flwFlt f = 0 := if_pos h
theorem flwFlt_f {f : DFlow} (h : ¬ flwOk f) : flwFlt f = 9 := if_neg h
set_option maxHeartbeats 1000000 in
theorem flwCheck_fn (f : DFlow) : Fn Tryz.prog 24 [.agg (encFlow f)] (.lit (.int .i64 (flwFlt f))) := by
  refine fn_of_run (by kernel_rfl) Tryz.func24 rfl (by kernel_rfl) ?_
  (repeat' first | (refine go_ ?_; ((repeat' first | exact True.intro | refine Two.mk ?_ ?_); all_goals intros)) | fail "")
  all_goals refine ends_ (hr := ?_)
  all_goals first
    | rw [flwFlt_t (by unfold flwOk; omega)]
    | rw [flwFlt_f (by unfold flwOk; omega)]
set_option maxHeartbeats 1000000 in
theorem flwFault_fn (f : DFlow) : Fn Tryz.prog 40 [.agg (encFlow f)] (.lit (.int .i64 (flwFlt f))) := by
  refine fn_of_run (by kernel_rfl) Tryz.func40 rfl (by kernel_rfl) ?_
  (repeat' first | (refine s_dec (upTo_fn _ _) (ht := ?_) (hff := ?_) <;> intro _ <;> try (exfalso; omega)) | (refine p_dec (upTo_fn _ _) (ht := ?_) (hff := ?_) <;> intro _ <;> try (exfalso; omega)) | (refine go_ ?_; ((repeat' first | exact True.intro | refine Two.mk ?_ ?_); all_goals intros)) | fail "")
  all_goals refine ends_ (hr := ?_)
  all_goals first
    | rw [flwFlt_t (by unfold flwOk; omega)]
    | rw [flwFlt_f (by unfold flwOk; omega)]
end Go.Proofs.YtfdomanbdfekhaaGreat

/-
  pace.Lost and the reference's: what each answers. No condition.
-/
set_option linter.unusedVariables false
set_option linter.unusedSimpArgs false
set_option linter.unusedVariables false
namespace Go.Proofs.YtfdomanbdfekhaaGreat
set_option maxRecDepth 100000
attribute [local irreducible] Run RunL QStep GStep Fn Less PL

def paceOk (p : DPace) : Prop := 200 ≤ p.Window ∧ p.Window ≤ 1099511627776 ∧ 0 ≤ p.Thresh ∧ p.Thresh ≤ 1099511627776 ∧ 0 ≤ p.Flying ∧ p.Flying ≤ 1099511627776 ∧ -1 ≤ p.Since ∧ p.Since ≤ 1099511627776
instance (p : DPace) : Decidable (paceOk p) := inferInstanceAs (Decidable (_ ∧ _))
def paceFlt (p : DPace) : Int := if paceOk p then 0 else 9
def inM (x : Int) : Prop := 0 ≤ x ∧ x ≤ 1099511627776
instance (x : Int) : Decidable (inM x) := inferInstanceAs (Decidable (_ ∧ _))
def paceArg (p : DPace) (l : List Int) : Int := if paceOk p then (if ∀ x ∈ l, inM x then 0 else 6) else 9

theorem paceCheck_fn (p : DPace) : Fn Tryz.prog 23 [.agg (encPace p)] (.lit (.int .i64 (paceFlt p))) := by
  refine fn_of_run (by kernel_rfl) Tryz.func23 rfl (by kernel_rfl) ?_
  (repeat' first | (refine go_ ?_; ((repeat' first | exact True.intro | refine Two.mk ?_ ?_); all_goals intros)) | fail "")
  all_goals (refine ends_ (hr := ?_); unfold paceFlt)
  all_goals first
    | rw [if_pos (by unfold paceOk; omega)]
    | rw [if_neg (by unfold paceOk; omega)]
theorem paceFaultRef_fn (p : DPace) (hw : wfPace p) : Fn Tryz.prog 39 [.agg (encPace p)] (.lit (.int .i64 (paceFlt p))) := by
  unfold wfPace I64 at hw
  have hs : p.Since ≠ 9223372036854775807 ∨ (p.Since = 9223372036854775807 ∧ IntKind.i64.wrap (p.Since + 1) = -9223372036854775808) := by
    by_cases h : p.Since = 9223372036854775807
    · right; rw [h]; exact ⟨rfl, rfl⟩
    · exact .inl h
  rcases hs with hs | hs
  all_goals
    refine fn_of_run (by kernel_rfl) Tryz.func39 rfl (by kernel_rfl) ?_
    (repeat' first | (refine s_dec (upTo_fn _ _) (ht := ?_) (hff := ?_) <;> intro _ <;> try (exfalso; omega)) | (refine p_dec (upTo_fn _ _) (ht := ?_) (hff := ?_) <;> intro _ <;> try (exfalso; omega)) | (refine go_ ?_; ((repeat' first | exact True.intro | refine Two.mk ?_ ?_); all_goals intros)) | fail "")
    all_goals (refine ends_ (hr := ?_); unfold paceFlt)
    all_goals first
      | rw [if_pos (by unfold paceOk; omega)]
      | rw [if_neg (by unfold paceOk; omega)]

theorem paceFault_fn (p : DPace) (l : List Int) (hl : l.length ≤ 100) : Fn Tryz.prog 56 [.agg (encPace p), .ro (l.map encI)] (.lit (.int .i64 (paceArg p l))) := by
  unfold paceArg
  by_cases ho : paceOk p
  · have h1 := paceCheck_fn p
    rw [show paceFlt p = 0 from if_pos ho] at h1
    rw [if_pos ho]
    refine fn_of_run (by kernel_rfl) Tryz.func56 rfl (by kernel_rfl) ?_
    (repeat' first | (refine s_call (h1) (h := ?_)) | (refine p_call (h1) (h := ?_)) | (refine go_ ?_; ((repeat' first | exact True.intro | refine Two.mk ?_ ?_); all_goals intros)) | fail "")
    refine r_for (fun k : Nat => ⟨[(1, .ro (l.map encI)), (13, .ro (l.map encI)), (14, .lit (.int .i64 l.length)), (15, .lit (.int .i64 k))], [], 0, Tryz.f56.ntmps⟩)
      (fun k => k ≤ l.length ∧ ∀ x ∈ l.take k, inM x) (fun k => l.length - k) 0 ⟨Nat.zero_le _, by simp⟩ less_to ?_
    rintro k ⟨hk, ht⟩
    by_cases hkn : k < l.length
    · (repeat' first | (refine go_ ?_; ((repeat' first | exact True.intro | refine Two.mk ?_ ?_); all_goals intros)) | fail "")
      all_goals first
        | (refine ⟨k + 1, ?_, ?_, ?_⟩; rotate_left 2; (exact lessA_); (focus (omega)); (focus (exact ⟨hkn, mem_take_snoc hkn ht (by unfold inM; omega)⟩)))
        | (refine ends_ (hr := ?_); rw [if_neg (fun h => ?_)]; have := h _ (getD_mem hkn); unfold inM at this; omega)
    · (repeat' first | (refine go_ ?_; ((repeat' first | exact True.intro | refine Two.mk ?_ ?_); all_goals intros)) | fail "")
      all_goals (refine ends_ (hr := ?_); rw [if_pos (by rw [List.take_of_length_le (by omega)] at ht; exact ht)])
  · have h1 := paceCheck_fn p
    rw [show paceFlt p = 9 from if_neg ho] at h1
    rw [if_neg ho]
    refine fn_of_run (by kernel_rfl) Tryz.func56 rfl (by kernel_rfl) ?_
    (repeat' first | (refine s_call (h1) (h := ?_)) | (refine p_call (h1) (h := ?_)) | (refine go_ ?_; ((repeat' first | exact True.intro | refine Two.mk ?_ ?_); all_goals intros)) | fail "")
    all_goals exact ends_ (hr := rfl)

theorem paceFaultArgRef_fn (p : DPace) (hw : wfPace p) (l : List Int) (hl : l.length ≤ 100) : Fn Tryz.prog 68 [.agg (encPace p), .ro (l.map encI)] (.lit (.int .i64 (paceArg p l))) := by
  have h1 := paceFaultRef_fn p hw
  unfold paceArg
  by_cases ho : paceOk p
  · rw [show paceFlt p = 0 from if_pos ho] at h1
    rw [if_pos ho]
    refine fn_of_run (by kernel_rfl) Tryz.func68 rfl (by kernel_rfl) ?_
    (repeat' first | (refine s_call (h1) (h := ?_)) | (refine p_call (h1) (h := ?_)) | (refine go_ ?_; ((repeat' first | exact True.intro | refine Two.mk ?_ ?_); all_goals intros)) | fail "")
    refine r_for (fun x : Nat × Int => ⟨[(1, .ro (l.map encI)), (10, .ro (l.map encI)), (11, .lit (.int .i64 l.length)), (12, .lit (.int .i64 x.1)), (5, .lit (.int .i64 x.2))], [], 0, Tryz.f68.ntmps⟩)
      (fun x => x.1 ≤ l.length ∧ (x.2 = 0 ∧ (∀ y ∈ l.take x.1, inM y) ∨ x.2 = 6 ∧ ¬ ∀ y ∈ l, inM y)) (fun x => l.length - x.1) (0, 0) ⟨Nat.zero_le _, .inl ⟨rfl, by simp⟩⟩ less_to ?_
    rintro ⟨k, e⟩ ⟨hk, ht⟩
    dsimp only at hk ht ⊢
    by_cases hkn : k < l.length
    · rcases ht with ⟨rfl, ht⟩ | ⟨rfl, ht⟩
      · (repeat' first | (refine s_dec (upTo_fn _ _) (ht := ?_) (hff := ?_) <;> intro _ <;> try (exfalso; omega)) | (refine p_dec (upTo_fn _ _) (ht := ?_) (hff := ?_) <;> intro _ <;> try (exfalso; omega)) | (refine go_ ?_; ((repeat' first | exact True.intro | refine Two.mk ?_ ?_); all_goals intros)) | fail "")
        all_goals first
          | (refine ⟨(k + 1, 0), ?_, ?_, ?_⟩; rotate_left 2; (exact lessA_); (focus (dsimp only; omega)); (focus (exact ⟨hkn, .inl ⟨rfl, mem_take_snoc hkn ht (by unfold inM; omega)⟩⟩)))
          | (refine ⟨(k + 1, 6), ?_, ?_, ?_⟩; rotate_left 2; (exact lessA_); (focus (dsimp only; omega)); (focus (refine ⟨hkn, .inr ⟨rfl, fun h => ?_⟩⟩; have := h _ (getD_mem hkn); unfold inM at this; omega)))
      · (repeat' first | (refine s_dec (upTo_fn _ _) (ht := ?_) (hff := ?_) <;> intro _ <;> try (exfalso; omega)) | (refine p_dec (upTo_fn _ _) (ht := ?_) (hff := ?_) <;> intro _ <;> try (exfalso; omega)) | (refine go_ ?_; ((repeat' first | exact True.intro | refine Two.mk ?_ ?_); all_goals intros)) | fail "")
        all_goals (refine ⟨(k + 1, 6), ?_, ?_, ?_⟩; rotate_left 2; (exact lessA_); (focus (dsimp only; omega)); (focus (exact ⟨hkn, .inr ⟨rfl, ht⟩⟩)))
    · rcases ht with ⟨rfl, ht⟩ | ⟨rfl, ht⟩
      · (repeat' first | (refine go_ ?_; ((repeat' first | exact True.intro | refine Two.mk ?_ ?_); all_goals intros)) | fail "")
        all_goals (refine ends_ (hr := ?_); rw [if_pos (by rw [List.take_of_length_le (by omega)] at ht; exact ht)])
      · (repeat' first | (refine go_ ?_; ((repeat' first | exact True.intro | refine Two.mk ?_ ?_); all_goals intros)) | fail "")
        all_goals (refine ends_ (hr := ?_); rw [if_neg ht])
  · rw [show paceFlt p = 9 from if_neg ho] at h1
    rw [if_neg ho]
    refine fn_of_run (by kernel_rfl) Tryz.func68 rfl (by kernel_rfl) ?_
    (repeat' first | (refine s_call (h1) (h := ?_)) | (refine p_call (h1) (h := ?_)) | (refine go_ ?_; ((repeat' first | exact True.intro | refine Two.mk ?_ ?_); all_goals intros)) | fail "")
    refine r_for (fun k : Nat => ⟨[(1, .ro (l.map encI)), (10, .ro (l.map encI)), (11, .lit (.int .i64 l.length)), (12, .lit (.int .i64 k)), (5, .lit (.int .i64 9))], [], 0, Tryz.f68.ntmps⟩)
      (fun k => k ≤ l.length) (fun k => l.length - k) 0 (Nat.zero_le _) less_to ?_
    intro k hk
    by_cases hkn : k < l.length
    · (repeat' first | (refine s_dec (upTo_fn _ _) (ht := ?_) (hff := ?_) <;> intro _ <;> try (exfalso; omega)) | (refine p_dec (upTo_fn _ _) (ht := ?_) (hff := ?_) <;> intro _ <;> try (exfalso; omega)) | (refine go_ ?_; ((repeat' first | exact True.intro | refine Two.mk ?_ ?_); all_goals intros)) | fail "")
      all_goals (refine ⟨k + 1, ?_, ?_, ?_⟩; rotate_left 2; (exact lessA_); (focus (omega)); (focus (exact hkn)))
    · (repeat' first | (refine go_ ?_; ((repeat' first | exact True.intro | refine Two.mk ?_ ?_); all_goals intros)) | fail "")
      all_goals exact ends_ (hr := rfl)

/-- P12.6 -/
def paceLostV (p : DPace) (n s t : Int) : DPace × Int :=
  if paceArg p [n, s, t] ≠ 0 then (⟨0, 0, 0, 0⟩, paceArg p [n, s, t])
  else if p.Flying < n then (⟨0, 0, 0, 0⟩, 13)
  else if s ≤ p.Since then (⟨p.Window, p.Thresh, p.Flying - n, p.Since⟩, 0)
  else (⟨max (p.Window / 2) 200, max (p.Window / 2) 200, p.Flying - n, max t s⟩, 0)
theorem paceArg_ok {p : DPace} {l : List Int} (h : paceArg p l = 0) : paceOk p ∧ ∀ x ∈ l, inM x := by
  unfold paceArg at h
  split at h
  · rename_i h1
    split at h
    · rename_i h2; exact ⟨h1, h2⟩
    · omega
  · omega
theorem paceLost_fn (p : DPace) (n s t : Int) : Fn Tryz.prog 34 [.agg (encPace p), .lit (.int .i64 n), .lit (.int .i64 s), .lit (.int .i64 t)] (.tup [.agg (encPace (paceLostV p n s t).1), .lit (.int .i64 (paceLostV p n s t).2)]) := by
  have h1 := paceFault_fn p [n, s, t] (by simp)
  unfold paceLostV
  by_cases h0 : paceArg p [n, s, t] = 0
  · obtain ⟨ho, hl⟩ := paceArg_ok h0
    rw [h0] at h1 ⊢
    rw [if_neg (by omega)]
    unfold paceOk at ho
    have ha := hl n (by simp)
    have hb := hl s (by simp)
    have hc := hl t (by simp)
    unfold inM at ha hb hc
    refine fn_of_run (by kernel_rfl) Tryz.func34 rfl (by kernel_rfl) ?_
    (repeat' first | (refine s_call (h1) (h := ?_)) | (refine p_call (h1) (h := ?_)) | (refine go_ ?_; ((repeat' first | exact True.intro | refine Two.mk ?_ ?_); all_goals intros)) | fail "")
    all_goals (refine ends_ (hr := ?_))
    all_goals first
      | (rw [if_pos (by omega)]; rfl)
      | (rw [if_neg (by omega), if_pos (by omega)]; rfl)
      | (rw [if_neg (by omega), if_neg (by omega)]; rfl)
  · rw [if_pos h0]
    generalize paceArg p [n, s, t] = e at *
    refine fn_of_run (by kernel_rfl) Tryz.func34 rfl (by kernel_rfl) ?_
    (repeat' first | (refine s_call (h1) (h := ?_)) | (refine p_call (h1) (h := ?_)) | (refine go_ ?_; ((repeat' first | exact True.intro | refine Two.mk ?_ ?_); all_goals intros)) | fail "")
    all_goals (refine ends_ (hr := ?_); rfl)
theorem paceLostRef_fn (p : DPace) (hw : wfPace p) (n s t : Int) : Fn Tryz.prog 44 [.agg (encPace p), .lit (.int .i64 n), .lit (.int .i64 s), .lit (.int .i64 t)] (.tup [.agg (encPace (paceLostV p n s t).1), .lit (.int .i64 (paceLostV p n s t).2)]) := by
  have h1 := paceFaultArgRef_fn p hw [n, s, t] (by simp)
  unfold paceLostV
  by_cases h0 : paceArg p [n, s, t] = 0
  · obtain ⟨ho, hl⟩ := paceArg_ok h0
    rw [h0] at h1 ⊢
    rw [if_neg (by omega)]
    unfold paceOk at ho
    have ha := hl n (by simp)
    have hb := hl s (by simp)
    have hc := hl t (by simp)
    unfold inM at ha hb hc
    refine fn_of_run (by kernel_rfl) Tryz.func44 rfl (by kernel_rfl) ?_
    (repeat' first | (refine s_call (h1) (h := ?_)) | (refine p_call (h1) (h := ?_)) | (refine go_ ?_; ((repeat' first | exact True.intro | refine Two.mk ?_ ?_); all_goals intros)) | fail "")
    all_goals (refine ends_ (hr := ?_))
    all_goals first
      | (rw [if_pos (by omega)]; rfl)
      | (rw [if_neg (by omega), if_pos (by omega)]; rfl)
      | (rw [if_neg (by omega), if_neg (by omega), Int.max_comm _ 200, Int.max_comm t s]; rfl)
  · rw [if_pos h0]
    generalize paceArg p [n, s, t] = e at *
    refine fn_of_run (by kernel_rfl) Tryz.func44 rfl (by kernel_rfl) ?_
    (repeat' first | (refine s_call (h1) (h := ?_)) | (refine p_call (h1) (h := ?_)) | (refine go_ ?_; ((repeat' first | exact True.intro | refine Two.mk ?_ ?_); all_goals intros)) | fail "")
    all_goals (refine ends_ (hr := ?_); rfl)
end Go.Proofs.YtfdomanbdfekhaaGreat

/-
  conn.Begin and the reference's ConnBegun: what each answers. No condition.
-/
set_option linter.unusedVariables false
set_option linter.unusedSimpArgs false
set_option linter.unusedVariables false
namespace Go.Proofs.YtfdomanbdfekhaaGreat
set_option maxRecDepth 100000
attribute [local irreducible] Run RunL QStep GStep Fn Less PL FnM

/-- P18.2 -/
def cnBegR (cl : Bool) (now : Int) : DConn × Int := if 0 ≤ now ∧ now ≤ 1099511627776 then (⟨cl, ⟨0, [], -1, [], []⟩, ⟨400, 0, 0, -1⟩, ⟨700, 0⟩, ⟨700, 0⟩, (if cl = true then 4 else 0), (if cl = true then 0 else 4), 0, [], false, [], now, 0, false, 0⟩, 0) else (default, 6)
def encCnE (r : DConn × Int) : V := .tup [.agg (encConn r.1), .lit (.int .i64 r.2)]
end Go.Proofs.YtfdomanbdfekhaaGreat
