/-
  pace.Send, flow.Spend and the sizes of frames: what each answers, and the reference's.
-/
import Derived.Test.YtfdomanbdfekhaaGA
import Derived.Test.YtfdomanbdfekhaaGD
import Derived.Test.YtfdomanbdfekhaaGtP
set_option linter.unusedVariables false
set_option linter.unusedSimpArgs false
set_option linter.unusedVariables false
namespace Go.Proofs.Ytfdomanbdfekhaa
set_option maxRecDepth 100000
attribute [local irreducible] Run RunL QStep GStep Fn Less PL FnM

/-- P12.3 -/
def paceSendV (p : DPace) (n : Int) : DPace × Bool × Int :=
  if paceArg p [n] ≠ 0 then (⟨0, 0, 0, 0⟩, false, paceArg p [n])
  else if p.Window - p.Flying < n then (p, false, 0)
  else (⟨p.Window, p.Thresh, p.Flying + n, p.Since⟩, true, 0)
def encPB (r : DPace × Bool × Int) : V := .tup [.agg (encPace r.1), .lit (.bool r.2.1), .lit (.int .i64 r.2.2)]
theorem pSend_fn (p : DPace) (n : Int) : Fn Try.prog 80 [.agg (encPace p), .lit (.int .i64 n)] (encPB (paceSendV p n)) := by
  have h1 := paceFault_fn p [n] (by simp)
  unfold paceSendV encPB
  by_cases h0 : paceArg p [n] = 0
  · obtain ⟨ho, hl⟩ := paceArg_ok h0
    rw [h0] at h1 ⊢
    rw [if_neg (by omega)]
    unfold paceOk at ho
    have ha := hl n (by simp)
    unfold inM at ha
    refine fn_of_run (by kernel_rfl) Try.func80 rfl (by kernel_rfl) ?_
    (repeat' first | (refine s_call (h1) (h := ?_)) | (refine p_call (h1) (h := ?_)) | (refine go_ ?_; ((repeat' first | exact True.intro | refine Two.mk ?_ ?_); all_goals intros)) | fail "")
    all_goals (refine ends_ (hr := ?_))
    all_goals first
      | (rw [if_pos (by omega)]; rfl)
      | (rw [if_neg (by omega)]; rfl)
      | skip
  · rw [if_pos h0]
    generalize paceArg p [n] = e at *
    refine fn_of_run (by kernel_rfl) Try.func80 rfl (by kernel_rfl) ?_
    (repeat' first | (refine s_call (h1) (h := ?_)) | (refine p_call (h1) (h := ?_)) | (refine go_ ?_; ((repeat' first | exact True.intro | refine Two.mk ?_ ?_); all_goals intros)) | fail "")
    all_goals (refine ends_ (hr := ?_); rfl)
theorem pSent_fn (p : DPace) (hw : wfPace p) (n : Int) : Fn Try.prog 88 [.agg (encPace p), .lit (.int .i64 n)] (encPB (paceSendV p n)) := by
  have h1 := paceFaultArgRef_fn p hw [n] (by simp)
  unfold paceSendV encPB
  by_cases h0 : paceArg p [n] = 0
  · obtain ⟨ho, hl⟩ := paceArg_ok h0
    rw [h0] at h1 ⊢
    rw [if_neg (by omega)]
    unfold paceOk at ho
    have ha := hl n (by simp)
    unfold inM at ha
    refine fn_of_run (by kernel_rfl) Try.func88 rfl (by kernel_rfl) ?_
    (repeat' first | (refine s_call (h1) (h := ?_)) | (refine p_call (h1) (h := ?_)) | (refine go_ ?_; ((repeat' first | exact True.intro | refine Two.mk ?_ ?_); all_goals intros)) | fail "")
    all_goals (refine ends_ (hr := ?_))
    all_goals first
      | (rw [if_pos (by omega)]; rfl)
      | (rw [if_neg (by omega)]; rfl)
      | skip
  · rw [if_pos h0]
    generalize paceArg p [n] = e at *
    refine fn_of_run (by kernel_rfl) Try.func88 rfl (by kernel_rfl) ?_
    (repeat' first | (refine s_call (h1) (h := ?_)) | (refine p_call (h1) (h := ?_)) | (refine go_ ?_; ((repeat' first | exact True.intro | refine Two.mk ?_ ?_); all_goals intros)) | fail "")
    all_goals (refine ends_ (hr := ?_); rfl)
/-- P9.2, where it may be spent -/
theorem fSpend_fn (f : DFlow) (n : Int) (h : flwOk f) (h0 : 0 ≤ n) (h1 : n ≤ f.Max - f.Used) : Fn Try.prog 124 [.agg (encFlow f), .lit (.int .i64 n)] (.tup [.agg (encFlow ⟨f.Max, f.Used + n⟩), .lit (.int .i64 0)]) := by
  have hc := flwCheck_fn f
  rw [flwFlt_t h] at hc
  unfold flwOk at h
  refine fn_of_run (by kernel_rfl) Try.func124 rfl (by kernel_rfl) ?_
  (repeat' first | (refine s_call (hc) (h := ?_)) | (refine p_call (hc) (h := ?_)) | (refine go_ ?_; ((repeat' first | exact True.intro | refine Two.mk ?_ ?_); all_goals intros)) | fail "")
  all_goals first
    | (exact endwA_)
    | skip
/-- the size of frames, and of what stands around them -/
def szF (l : List DFrame) : Int := 24 + ((frsB l).length : Int)
theorem szF_snoc (l : List DFrame) (f : DFrame) : szF (l ++ [f]) = szF l + ((frB f).length : Int) := by
  unfold szF; rw [frsB_snoc, List.length_append]; omega
theorem szF_one (f : DFrame) : szF [f] = 24 + ((frB f).length : Int) := by
  have := szF_snoc [] f
  rw [List.nil_append] at this
  rw [this]; unfold szF frsB; simp
theorem szF_le {l : List DFrame} (h : ∀ f ∈ l, frFlt f = 0) : 24 ≤ szF l ∧ szF l ≤ 24 + 1000 * (l.length : Int) := by
  have := frsB_len h
  unfold szF; omega
theorem szF_take {l : List DFrame} {k : Nat} (hk : k < l.length) : szF (l.take (k + 1)) = szF (l.take k) + ((frB (l.getD k default)).length : Int) := by rw [take_snoc hk, szF_snoc]
set_option maxHeartbeats 1000000 in
theorem size_fn (l : List DFrame) (hw : ∀ f ∈ l, wfFrame f) (h0 : ∀ f ∈ l, frFlt f = 0) (hl : l.length ≤ 1000000) : Fn Try.prog 78 [.ro (l.map encFrame)] (.lit (.int .i64 (szF l))) := by
  refine fn_of_run (by kernel_rfl) Try.func78 rfl (by kernel_rfl) ?_
  (repeat' first | (refine go_ ?_; ((repeat' first | exact True.intro | refine Two.mk ?_ ?_); all_goals intros)) | fail "")
  refine r_for (fun k : Nat => ⟨[(3, .lit (.int .i64 (szF (l.take k)))), (8, .ro (l.map encFrame)), (9, .lit (.int .i64 l.length)), (10, .lit (.int .i64 k))], [], 0, Try.f78.ntmps⟩)
    (fun k => k ≤ l.length) (fun k => l.length - k) 0 (Nat.zero_le _) (by (exact lessA_)) ?_
  intro k hk
  by_cases hkn : k < l.length
  · have hm := getD_mem hkn
    have hz := h0 _ hm
    have h1 := frameEncode_ok (l.getD k default) (hw _ hm) hz
    have hb := frB_len hz
    have hs := szF_take hkn
    have hb2 := szF_le (l := l.take k) (fun f hf => h0 f (List.mem_of_mem_take hf))
    rw [List.length_take] at hb2
    generalize szF (l.take k) = a at *
    (repeat' first | (refine s_call (h1) (h := ?_)) | (refine p_call (h1) (h := ?_)) | (refine go_ ?_; ((repeat' first | exact True.intro | refine Two.mk ?_ ?_); all_goals intros)) | fail "")
    all_goals first
      | (refine ⟨k + 1, ?_, ?_, ?_⟩; rotate_left 2; (exact lessA_); (focus (omega)); (focus (exact hkn)))
      | skip
  · have hkl : k = l.length := by omega
    subst hkl
    rw [List.take_length]
    (repeat' first | (refine go_ ?_; ((repeat' first | exact True.intro | refine Two.mk ?_ ?_); all_goals intros)) | fail "")
    all_goals first
      | (exact endwA_)
      | skip
set_option maxHeartbeats 1000000 in
theorem sizeOf_fn (l : List DFrame) (h0 : ∀ f ∈ l, frFlt f = 0) (hl : l.length ≤ 1000000) : Fn Try.prog 85 [.ro (l.map encFrame)] (.lit (.int .i64 (szF l))) := by
  refine fn_of_run (by kernel_rfl) Try.func85 rfl (by kernel_rfl) ?_
  (repeat' first | (refine go_ ?_; ((repeat' first | exact True.intro | refine Two.mk ?_ ?_); all_goals intros)) | fail "")
  refine r_for (fun k : Nat => ⟨[(3, .lit (.int .i64 (szF (l.take k)))), (6, .ro (l.map encFrame)), (7, .lit (.int .i64 l.length)), (8, .lit (.int .i64 k))], [], 0, Try.f85.ntmps⟩)
    (fun k => k ≤ l.length) (fun k => l.length - k) 0 (Nat.zero_le _) (by (exact lessA_)) ?_
  intro k hk
  by_cases hkn : k < l.length
  · have hm := getD_mem hkn
    have hz := h0 _ hm
    have h1 := frameText_fn (l.getD k default) hz
    have hb := frB_len hz
    have hs := szF_take hkn
    have hb2 := szF_le (l := l.take k) (fun f hf => h0 f (List.mem_of_mem_take hf))
    rw [List.length_take] at hb2
    generalize szF (l.take k) = a at *
    (repeat' first | (refine s_call (h1) (h := ?_)) | (refine p_call (h1) (h := ?_)) | (refine go_ ?_; ((repeat' first | exact True.intro | refine Two.mk ?_ ?_); all_goals intros)) | fail "")
    all_goals first
      | (refine ⟨k + 1, ?_, ?_, ?_⟩; rotate_left 2; (exact lessA_); (focus (omega)); (focus (exact hkn)))
      | skip
  · have hkl : k = l.length := by omega
    subst hkl
    rw [List.take_length]
    (repeat' first | (refine go_ ?_; ((repeat' first | exact True.intro | refine Two.mk ?_ ?_); all_goals intros)) | fail "")
    all_goals first
      | (exact endwA_)
      | skip
end Go.Proofs.Ytfdomanbdfekhaa
