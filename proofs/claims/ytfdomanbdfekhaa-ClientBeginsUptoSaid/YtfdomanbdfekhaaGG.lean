/-
  SEVERAL TEXTS IN ONE: each with its own comment.
-/
import Derived.Test.YtfdomanbdfekhaaGA
import Derived.Test.YtfdomanbdfekhaaGF
import Derived.Test.YtfdomanbdfekhaaGE
import Derived.Test.YtfdomanbdfekhaaGB
import Derived.Test.YtfdomanbdfekhaaGC
/-
  The reference's SenderFault: what it answers, within the bound of the second form.
-/
set_option linter.unusedVariables false
set_option linter.unusedSimpArgs false
set_option linter.unusedVariables false
namespace Go.Proofs.Ytfdomanbdfekhaa
set_option maxRecDepth 100000
attribute [local irreducible] Run RunL QStep GStep Fn Less PL

theorem lastLow_iff {n : Int} : ∀ {l : List DRange} {a : Int}, rSet a l → (lastLow n l ↔ ∀ x ∈ l, x.Hi < n)
  | [], a, _ => ⟨fun _ x hx => (by cases hx), fun _ h => absurd h (by simp)⟩
  | [x], a, _ => ⟨fun h y hy => (by rw [List.mem_singleton] at hy; subst hy; exact h (by simp)), fun h _ => h x (by simp)⟩
  | x :: y :: r, a, h => by
    have ih := lastLow_iff (n := n) (l := y :: r) h.2.2
    have hy := rSet_good h.2.2 y (by simp)
    unfold rGood at hy
    have e : lastLow n (x :: y :: r) ↔ lastLow n (y :: r) := by
      unfold lastLow
      simp only [List.length_cons, Nat.add_sub_cancel, List.getD_cons_succ]
      exact ⟨fun q _ => q (by omega), fun q _ => q (by omega)⟩
    rw [e, ih]
    constructor
    · intro q z hz
      rcases List.mem_cons.1 hz with rfl | hz
      · have := q y (by simp); omega
      · exact q z hz
    · intro q z hz
      exact q z (List.mem_cons_of_mem _ hz)
theorem allTo_memR {l : List DRange} {Q : DRange → Prop} : AllTo (fun i => Q (l.getD i default)) l.length ↔ ∀ x ∈ l, Q x := by
  constructor
  · intro h x hx
    obtain ⟨i, hi, rfl⟩ := List.getElem_of_mem hx
    have := h i hi
    dsimp only at this
    rwa [List.getD_eq_getElem?_getD, List.getElem?_eq_getElem hi] at this
  · intro h i hi
    exact h _ (getD_mem hi)
theorem sndOk_iff (s : DSender) : sndOk s ↔ (sndHead s ∧ AllTo (fun i => ((s.Lost ++ s.Acked).getD i default).Hi < s.Next) (s.Lost ++ s.Acked).length) ∧ apartL s.Lost s.Acked := by
  have e := allTo_memR (l := s.Lost ++ s.Acked) (Q := fun x => x.Hi < s.Next)
  unfold sndOk
  constructor
  · rintro ⟨⟨⟨h1, h2⟩, h3⟩, h4⟩
    refine ⟨⟨h1, e.2 fun x hx => ?_⟩, h4⟩
    rcases List.mem_append.1 hx with hx | hx
    · exact (lastLow_iff (rFlt_set h1.2.2.2.2.2.1)).1 h2 x hx
    · exact (lastLow_iff (rFlt_set h1.2.2.2.2.2.2.1)).1 h3 x hx
  · rintro ⟨⟨h1, h2⟩, h4⟩
    have h2 := e.1 h2
    exact ⟨⟨⟨h1, (lastLow_iff (rFlt_set h1.2.2.2.2.2.1)).2 fun x hx => h2 x (List.mem_append.2 (.inl hx))⟩, (lastLow_iff (rFlt_set h1.2.2.2.2.2.2.1)).2 fun x hx => h2 x (List.mem_append.2 (.inr hx))⟩, h4⟩

def sndNum (s : DSender) : Prop := s.Data.length ≤ 600 ∧ 0 ≤ s.Next ∧ s.Next ≤ s.Data.length ∧ s.Next ≤ s.Max ∧ s.Max ≤ 4611686018427387903 ∧ rFlt s.Lost = 0 ∧ rFlt s.Acked = 0
theorem sndHead_iff (s : DSender) : sndHead s ↔ sndNum s ∧ sndFl s.Fin s.Ended s.Over = true ∧ ((s.Ended || s.Over) = true → s.Next = s.Data.length) := by
  unfold sndHead sndNum
  constructor
  · rintro ⟨a, b, c, d, e, f, g, h, i⟩; exact ⟨⟨a, b, c, d, e, f, g⟩, h, i⟩
  · rintro ⟨⟨a, b, c, d, e, f, g⟩, h, i⟩; exact ⟨a, b, c, d, e, f, g, h, i⟩

set_option maxHeartbeats 4000000 in
theorem senderFault_fn (s : DSender) (hw : U.wfSender s) : Fn Try.prog 100 [.agg (encSender s)] (.lit (.int .i64 (sndFlt s))) := by
  obtain ⟨w1, w2, w3, w4, w5, w6, w7⟩ := U.wf_leSender s hw
  have u4 := hw.2.2.2.1
  have u6 := hw.2.2.2.2.2.1
  clear hw
  unfold I64 at w2 w3
  have h1 := rangesFaultRef_fn s.Lost w5 (by omega)
  have h2 := rangesFaultRef_fn s.Acked w7 (by omega)
  have h3 := overlap_fn s.Lost s.Acked (by omega) (by omega)
  clear w5 w7
  refine fn_of_run (by kernel_rfl) Try.func100 rfl (by kernel_rfl) ?_
  refine r_seq ?_
  refine r_region ?_
  (repeat' first | (refine goS_ ?_; ((repeat' first | exact True.intro | refine Two.mk ?_ ?_); all_goals intros)) | fail "")
  refine thenQ_n ?_
  refine r_cut (fun ok : Bool => ⟨[(1, .ptr 0 0 0 0), (2, .lit (.int .i64 0)), (3, .lit (.bool ok))], [(0, some (.box 99 (encSender s)))], 1, Try.f100.ntmps⟩) (fun ok => ok = true ↔ sndNum s) ?_ ?_
  · unfold sndNum
    (repeat' first | (refine s_dec (upTo_fn _ _) (ht := ?_) (hff := ?_) <;> intro _ <;> try (exfalso; omega)) | (refine p_dec (upTo_fn _ _) (ht := ?_) (hff := ?_) <;> intro _ <;> try (exfalso; omega)) | (refine s_call (h1) (h := ?_)) | (refine p_call (h1) (h := ?_)) | (refine s_call (h2) (h := ?_)) | (refine p_call (h2) (h := ?_)) | (refine go_ ?_; ((repeat' first | exact True.intro | refine Two.mk ?_ ?_); all_goals intros)) | fail "")
    all_goals first
      | (refine ⟨true, ?_, ?_⟩; rotate_left 1; (exact lessA_); (focus (exact ⟨fun _ => (by omega), fun _ => rfl⟩)))
      | (refine ⟨false, ?_, ?_⟩; rotate_left 1; (exact lessA_); (focus (exact ⟨(fun h => by cases h), fun h => (by omega)⟩)))
      | skip
  rintro ok hok
  clear h1 h2
  refine r_cut (fun ok : Bool => ⟨[(1, .ptr 0 0 0 0), (2, .lit (.int .i64 0)), (3, .lit (.bool ok))], [(0, some (.box 99 (encSender s)))], 1, Try.f100.ntmps⟩) (fun ok => ok = true ↔ sndHead s) ?_ ?_
  · rw [sndHead_iff]
    cases ok
    · have hn : ¬ sndNum s := fun h => by have := hok.2 h; cases this
      clear hok
      (repeat' first | (refine go_ ?_; ((repeat' first | exact True.intro | refine Two.mk ?_ ?_); all_goals intros)) | fail "")
      all_goals first
        | (refine ⟨false, ?_, ?_⟩; rotate_left 1; (exact lessA_); (focus (exact ⟨(fun h => by cases h), fun h => absurd h.1 hn⟩)))
        | skip
    · have hn := hok.1 rfl
      clear hok
      obtain ⟨data, fin, next, mx, lost, acked, en, ov⟩ := s
      dsimp only at *
      cases fin <;> cases en <;> cases ov
      all_goals (repeat' first | (refine go_ ?_; ((repeat' first | exact True.intro | refine Two.mk ?_ ?_); all_goals intros)) | fail "")
      all_goals first
        | (refine ⟨true, ?_, ?_⟩; rotate_left 1; (exact lessA_); (focus (exact ⟨fun _ => ⟨hn, rfl, fun h => (by first | omega | cases h)⟩, fun _ => rfl⟩)))
        | (refine ⟨false, ?_, ?_⟩; rotate_left 1; (exact lessA_); (focus (exact ⟨(fun h => by cases h), fun h => (by obtain ⟨_, q8, q9⟩ := h; first | (cases q8; done) | (exfalso; have q9 := q9 rfl; dsimp only at *; omega))⟩)))
        | skip
  clear ok hok
  rintro ok hok
  have hll : (s.Lost ++ s.Acked).length = s.Lost.length + s.Acked.length := List.length_append
  have hiff := sndOk_iff s
  (repeat' first | (refine s_app (r := s.Lost.map encRange) ?_ ?_ ?_ ?_ (h := ?_); (focus (first | with_reducible rfl | with_reducible exact List.nil_append _ | with_reducible exact (List.map_append ..).symm | (rw [take_snoc (by assumption), List.map_append]; rfl) | (rw [List.map_append]; rfl) | (simp; done))); (focus (first | exact len_none | exact len_one rfl | exact len_two rfl rfl | exact len_enc (fun _ => rfl))); (focus ((conv => lhs; rhs; whnf); simp only [List.length_map, List.length_append, List.length_cons, List.length_nil, List.length_take]; omega)); (focus (simp only [List.length_map, List.length_append, List.length_cons, List.length_nil, List.length_take]; omega))) | (refine s_app0R (r := s.Lost.map encRange) ?_ ?_ ?_ ?_ (h := ?_); (focus (first | with_reducible rfl | with_reducible exact List.nil_append _ | with_reducible exact (List.map_append ..).symm | (rw [take_snoc (by assumption), List.map_append]; rfl) | (rw [List.map_append]; rfl) | (simp; done))); (focus (first | exact len_none | exact len_one rfl | exact len_two rfl rfl | exact len_enc (fun _ => rfl))); (focus ((conv => lhs; rhs; whnf); simp only [List.length_map, List.length_append, List.length_cons, List.length_nil, List.length_take]; omega)); (focus (simp only [List.length_map, List.length_append, List.length_cons, List.length_nil, List.length_take]; omega))) | (refine p_app (r := s.Lost.map encRange) ?_ ?_ ?_ ?_ (h := ?_); (focus (first | with_reducible rfl | with_reducible exact List.nil_append _ | with_reducible exact (List.map_append ..).symm | (rw [take_snoc (by assumption), List.map_append]; rfl) | (rw [List.map_append]; rfl) | (simp; done))); (focus (first | exact len_none | exact len_one rfl | exact len_two rfl rfl | exact len_enc (fun _ => rfl))); (focus ((conv => lhs; rhs; whnf); simp only [List.length_map, List.length_append, List.length_cons, List.length_nil, List.length_take]; omega)); (focus (simp only [List.length_map, List.length_append, List.length_cons, List.length_nil, List.length_take]; omega))) | (refine p_app0R (r := s.Lost.map encRange) ?_ ?_ ?_ ?_ (h := ?_); (focus (first | with_reducible rfl | with_reducible exact List.nil_append _ | with_reducible exact (List.map_append ..).symm | (rw [take_snoc (by assumption), List.map_append]; rfl) | (rw [List.map_append]; rfl) | (simp; done))); (focus (first | exact len_none | exact len_one rfl | exact len_two rfl rfl | exact len_enc (fun _ => rfl))); (focus ((conv => lhs; rhs; whnf); simp only [List.length_map, List.length_append, List.length_cons, List.length_nil, List.length_take]; omega)); (focus (simp only [List.length_map, List.length_append, List.length_cons, List.length_nil, List.length_take]; omega))) | (refine s_appro (r := (s.Lost ++ s.Acked).map encRange) ?_ ?_ ?_ ?_ (h := ?_); (focus (first | (rw [List.map_append]) | with_reducible rfl | with_reducible exact List.nil_append _ | with_reducible exact (List.map_append ..).symm | (rw [take_snoc (by assumption), List.map_append]; rfl) | (rw [List.map_append]; rfl) | (simp; done))); (focus (first | exact len_none | exact len_one rfl | exact len_two rfl rfl | exact len_enc (fun _ => rfl))); (focus ((conv => lhs; rhs; whnf); simp only [List.length_map, List.length_append, List.length_cons, List.length_nil, List.length_take]; omega)); (focus (simp only [List.length_map, List.length_append, List.length_cons, List.length_nil, List.length_take]; omega))) | (refine s_app0roR (r := (s.Lost ++ s.Acked).map encRange) ?_ ?_ ?_ ?_ (h := ?_); (focus (first | (rw [List.map_append]) | with_reducible rfl | with_reducible exact List.nil_append _ | with_reducible exact (List.map_append ..).symm | (rw [take_snoc (by assumption), List.map_append]; rfl) | (rw [List.map_append]; rfl) | (simp; done))); (focus (first | exact len_none | exact len_one rfl | exact len_two rfl rfl | exact len_enc (fun _ => rfl))); (focus ((conv => lhs; rhs; whnf); simp only [List.length_map, List.length_append, List.length_cons, List.length_nil, List.length_take]; omega)); (focus (simp only [List.length_map, List.length_append, List.length_cons, List.length_nil, List.length_take]; omega))) | (refine p_appro (r := (s.Lost ++ s.Acked).map encRange) ?_ ?_ ?_ ?_ (h := ?_); (focus (first | (rw [List.map_append]) | with_reducible rfl | with_reducible exact List.nil_append _ | with_reducible exact (List.map_append ..).symm | (rw [take_snoc (by assumption), List.map_append]; rfl) | (rw [List.map_append]; rfl) | (simp; done))); (focus (first | exact len_none | exact len_one rfl | exact len_two rfl rfl | exact len_enc (fun _ => rfl))); (focus ((conv => lhs; rhs; whnf); simp only [List.length_map, List.length_append, List.length_cons, List.length_nil, List.length_take]; omega)); (focus (simp only [List.length_map, List.length_append, List.length_cons, List.length_nil, List.length_take]; omega))) | (refine p_app0roR (r := (s.Lost ++ s.Acked).map encRange) ?_ ?_ ?_ ?_ (h := ?_); (focus (first | (rw [List.map_append]) | with_reducible rfl | with_reducible exact List.nil_append _ | with_reducible exact (List.map_append ..).symm | (rw [take_snoc (by assumption), List.map_append]; rfl) | (rw [List.map_append]; rfl) | (simp; done))); (focus (first | exact len_none | exact len_one rfl | exact len_two rfl rfl | exact len_enc (fun _ => rfl))); (focus ((conv => lhs; rhs; whnf); simp only [List.length_map, List.length_append, List.length_cons, List.length_nil, List.length_take]; omega)); (focus (simp only [List.length_map, List.length_append, List.length_cons, List.length_nil, List.length_take]; omega))) | (refine go_ ?_; ((repeat' first | exact True.intro | refine Two.mk ?_ ?_); all_goals intros)) | fail "")
  generalize s.Lost ++ s.Acked = L at *
  refine r_for (fun x : Nat × Bool => ⟨[(1, .ptr 0 0 0 0), (2, .lit (.int .i64 0)), (3, .lit (.bool x.2)), (79, .ro (L.map encRange)), (80, .lit (.int .i64 L.length)), (81, .lit (.int .i64 x.1))], [(0, some (.box 99 (encSender s)))], 1, Try.f100.ntmps⟩)
    (fun x => x.1 ≤ L.length ∧ (x.2 = true ↔ sndHead s ∧ AllTo (fun i => (L.getD i default).Hi < s.Next) x.1)) (fun x => L.length - x.1) (0, ok) ⟨Nat.zero_le _, by rw [hok]; exact ⟨fun h => ⟨h, allTo0⟩, fun h => h.1⟩⟩ (by (try dsimp only); (exact lessA_)) ?_
  rintro ⟨k, ok⟩ ⟨hk, hi⟩
  dsimp only at hk hi ⊢
  by_cases hkn : k < L.length
  · have hs := allTo_succ (Q := fun i => (L.getD i default).Hi < s.Next) (k := k)
    cases ok
    · have hi : ¬ (sndHead s ∧ AllTo (fun i => (L.getD i default).Hi < s.Next) k) := fun h => by have := hi.2 h; cases this
      (repeat' first | (refine go_ ?_; ((repeat' first | exact True.intro | refine Two.mk ?_ ?_); all_goals intros)) | fail "")
      all_goals first
        | (refine ⟨(k + 1, false), ?_, ?_, ?_⟩; rotate_left 2; (exact lessA_); (focus (dsimp only; omega)); (focus (exact ⟨hkn, (fun h => by cases h), fun h => absurd ⟨h.1, (hs.1 h.2).1⟩ hi⟩)))
        | skip
    · obtain ⟨hh, ha⟩ := hi.1 rfl
      (repeat' first | (refine go_ ?_; ((repeat' first | exact True.intro | refine Two.mk ?_ ?_); all_goals intros)) | fail "")
      all_goals first
        | (refine ⟨(k + 1, true), ?_, ?_, ?_⟩; rotate_left 2; (exact lessA_); (focus (dsimp only; omega)); (focus (exact ⟨hkn, fun _ => ⟨hh, hs.2 ⟨ha, by assumption⟩⟩, fun _ => rfl⟩)))
        | (refine ⟨(k + 1, false), ?_, ?_, ?_⟩; rotate_left 2; (exact lessA_); (focus (dsimp only; omega)); (focus (exact ⟨hkn, (fun h => by cases h), fun h => (by have h2 := (hs.1 h.2).2; (try dsimp only at h2); omega)⟩)))
        | skip
  · have hkl : k = L.length := by omega
    subst hkl
    cases ok
    · rw [sndFlt_f (fun h => by have := hi.2 (hiff.1 h).1; cases this)]
      (repeat' first | (refine go_ ?_; ((repeat' first | exact True.intro | refine Two.mk ?_ ?_); all_goals intros)) | fail "")
      all_goals exact ends_ (hr := rfl)
    · have hi := hi.1 rfl
      by_cases ha : apartL s.Lost s.Acked
      · rw [sndFlt_t (hiff.2 ⟨hi, ha⟩)]
        rw [no_of (fun h => h ha)] at h3
        (repeat' first | (refine s_call (h3) (h := ?_)) | (refine p_call (h3) (h := ?_)) | (refine go_ ?_; ((repeat' first | exact True.intro | refine Two.mk ?_ ?_); all_goals intros)) | fail "")
        all_goals exact ends_ (hr := rfl)
      · rw [sndFlt_f (fun h => ha (hiff.1 h).2)]
        rw [yes_of ha] at h3
        (repeat' first | (refine s_call (h3) (h := ?_)) | (refine p_call (h3) (h := ?_)) | (refine go_ ?_; ((repeat' first | exact True.intro | refine Two.mk ?_ ?_); all_goals intros)) | fail "")
        all_goals exact ends_ (hr := rfl)
end Go.Proofs.Ytfdomanbdfekhaa

/-
  No sender; sender.fresh: a copy, as data.
-/
set_option linter.unusedVariables false
set_option linter.unusedSimpArgs false
set_option linter.unusedVariables false
namespace Go.Proofs.Ytfdomanbdfekhaa
set_option maxRecDepth 100000
attribute [local irreducible] Run RunL QStep GStep Fn Less PL FnM

/-- no sender -/
def sndZ : DSender := ⟨[], false, 0, 0, [], [], false, false⟩
set_option maxHeartbeats 1000000 in
theorem senderFresh_fn (s : DSender) (hw : wfSender s) : Fn Try.prog 108 [.agg (encSender s)] (.agg (encSender s)) := by
  have hl := hw.1
  have hl2 := hw.2.2.2.1
  have hl3 := hw.2.2.2.2.2.1
  refine fn_of_run (by kernel_rfl) Try.func108 rfl (by kernel_rfl) ?_
  (repeat' first | (refine s_app (r := s.Data.map encB) ?_ ?_ ?_ ?_ (h := ?_); (focus (first | with_reducible rfl | with_reducible exact List.nil_append _ | with_reducible exact (List.map_append ..).symm | (rw [take_snoc (by assumption), List.map_append]; rfl) | (rw [List.map_append]; rfl) | (simp; done))); (focus (first | exact len_none | exact len_one rfl | exact len_two rfl rfl | exact len_enc (fun _ => rfl))); (focus ((conv => lhs; rhs; whnf); simp only [List.length_map, List.length_append, List.length_cons, List.length_nil, List.length_take]; omega)); (focus (simp only [List.length_map, List.length_append, List.length_cons, List.length_nil, List.length_take]; omega))) | (refine s_app0R (r := s.Data.map encB) ?_ ?_ ?_ ?_ (h := ?_); (focus (first | with_reducible rfl | with_reducible exact List.nil_append _ | with_reducible exact (List.map_append ..).symm | (rw [take_snoc (by assumption), List.map_append]; rfl) | (rw [List.map_append]; rfl) | (simp; done))); (focus (first | exact len_none | exact len_one rfl | exact len_two rfl rfl | exact len_enc (fun _ => rfl))); (focus ((conv => lhs; rhs; whnf); simp only [List.length_map, List.length_append, List.length_cons, List.length_nil, List.length_take]; omega)); (focus (simp only [List.length_map, List.length_append, List.length_cons, List.length_nil, List.length_take]; omega))) | (refine p_app (r := s.Data.map encB) ?_ ?_ ?_ ?_ (h := ?_); (focus (first | with_reducible rfl | with_reducible exact List.nil_append _ | with_reducible exact (List.map_append ..).symm | (rw [take_snoc (by assumption), List.map_append]; rfl) | (rw [List.map_append]; rfl) | (simp; done))); (focus (first | exact len_none | exact len_one rfl | exact len_two rfl rfl | exact len_enc (fun _ => rfl))); (focus ((conv => lhs; rhs; whnf); simp only [List.length_map, List.length_append, List.length_cons, List.length_nil, List.length_take]; omega)); (focus (simp only [List.length_map, List.length_append, List.length_cons, List.length_nil, List.length_take]; omega))) | (refine p_app0R (r := s.Data.map encB) ?_ ?_ ?_ ?_ (h := ?_); (focus (first | with_reducible rfl | with_reducible exact List.nil_append _ | with_reducible exact (List.map_append ..).symm | (rw [take_snoc (by assumption), List.map_append]; rfl) | (rw [List.map_append]; rfl) | (simp; done))); (focus (first | exact len_none | exact len_one rfl | exact len_two rfl rfl | exact len_enc (fun _ => rfl))); (focus ((conv => lhs; rhs; whnf); simp only [List.length_map, List.length_append, List.length_cons, List.length_nil, List.length_take]; omega)); (focus (simp only [List.length_map, List.length_append, List.length_cons, List.length_nil, List.length_take]; omega))) | (refine s_app (r := s.Lost.map encRange) ?_ ?_ ?_ ?_ (h := ?_); (focus (first | with_reducible rfl | with_reducible exact List.nil_append _ | with_reducible exact (List.map_append ..).symm | (rw [take_snoc (by assumption), List.map_append]; rfl) | (rw [List.map_append]; rfl) | (simp; done))); (focus (first | exact len_none | exact len_one rfl | exact len_two rfl rfl | exact len_enc (fun _ => rfl))); (focus ((conv => lhs; rhs; whnf); simp only [List.length_map, List.length_append, List.length_cons, List.length_nil, List.length_take]; omega)); (focus (simp only [List.length_map, List.length_append, List.length_cons, List.length_nil, List.length_take]; omega))) | (refine s_app0R (r := s.Lost.map encRange) ?_ ?_ ?_ ?_ (h := ?_); (focus (first | with_reducible rfl | with_reducible exact List.nil_append _ | with_reducible exact (List.map_append ..).symm | (rw [take_snoc (by assumption), List.map_append]; rfl) | (rw [List.map_append]; rfl) | (simp; done))); (focus (first | exact len_none | exact len_one rfl | exact len_two rfl rfl | exact len_enc (fun _ => rfl))); (focus ((conv => lhs; rhs; whnf); simp only [List.length_map, List.length_append, List.length_cons, List.length_nil, List.length_take]; omega)); (focus (simp only [List.length_map, List.length_append, List.length_cons, List.length_nil, List.length_take]; omega))) | (refine p_app (r := s.Lost.map encRange) ?_ ?_ ?_ ?_ (h := ?_); (focus (first | with_reducible rfl | with_reducible exact List.nil_append _ | with_reducible exact (List.map_append ..).symm | (rw [take_snoc (by assumption), List.map_append]; rfl) | (rw [List.map_append]; rfl) | (simp; done))); (focus (first | exact len_none | exact len_one rfl | exact len_two rfl rfl | exact len_enc (fun _ => rfl))); (focus ((conv => lhs; rhs; whnf); simp only [List.length_map, List.length_append, List.length_cons, List.length_nil, List.length_take]; omega)); (focus (simp only [List.length_map, List.length_append, List.length_cons, List.length_nil, List.length_take]; omega))) | (refine p_app0R (r := s.Lost.map encRange) ?_ ?_ ?_ ?_ (h := ?_); (focus (first | with_reducible rfl | with_reducible exact List.nil_append _ | with_reducible exact (List.map_append ..).symm | (rw [take_snoc (by assumption), List.map_append]; rfl) | (rw [List.map_append]; rfl) | (simp; done))); (focus (first | exact len_none | exact len_one rfl | exact len_two rfl rfl | exact len_enc (fun _ => rfl))); (focus ((conv => lhs; rhs; whnf); simp only [List.length_map, List.length_append, List.length_cons, List.length_nil, List.length_take]; omega)); (focus (simp only [List.length_map, List.length_append, List.length_cons, List.length_nil, List.length_take]; omega))) | (refine s_app (r := s.Acked.map encRange) ?_ ?_ ?_ ?_ (h := ?_); (focus (first | with_reducible rfl | with_reducible exact List.nil_append _ | with_reducible exact (List.map_append ..).symm | (rw [take_snoc (by assumption), List.map_append]; rfl) | (rw [List.map_append]; rfl) | (simp; done))); (focus (first | exact len_none | exact len_one rfl | exact len_two rfl rfl | exact len_enc (fun _ => rfl))); (focus ((conv => lhs; rhs; whnf); simp only [List.length_map, List.length_append, List.length_cons, List.length_nil, List.length_take]; omega)); (focus (simp only [List.length_map, List.length_append, List.length_cons, List.length_nil, List.length_take]; omega))) | (refine s_app0R (r := s.Acked.map encRange) ?_ ?_ ?_ ?_ (h := ?_); (focus (first | with_reducible rfl | with_reducible exact List.nil_append _ | with_reducible exact (List.map_append ..).symm | (rw [take_snoc (by assumption), List.map_append]; rfl) | (rw [List.map_append]; rfl) | (simp; done))); (focus (first | exact len_none | exact len_one rfl | exact len_two rfl rfl | exact len_enc (fun _ => rfl))); (focus ((conv => lhs; rhs; whnf); simp only [List.length_map, List.length_append, List.length_cons, List.length_nil, List.length_take]; omega)); (focus (simp only [List.length_map, List.length_append, List.length_cons, List.length_nil, List.length_take]; omega))) | (refine p_app (r := s.Acked.map encRange) ?_ ?_ ?_ ?_ (h := ?_); (focus (first | with_reducible rfl | with_reducible exact List.nil_append _ | with_reducible exact (List.map_append ..).symm | (rw [take_snoc (by assumption), List.map_append]; rfl) | (rw [List.map_append]; rfl) | (simp; done))); (focus (first | exact len_none | exact len_one rfl | exact len_two rfl rfl | exact len_enc (fun _ => rfl))); (focus ((conv => lhs; rhs; whnf); simp only [List.length_map, List.length_append, List.length_cons, List.length_nil, List.length_take]; omega)); (focus (simp only [List.length_map, List.length_append, List.length_cons, List.length_nil, List.length_take]; omega))) | (refine p_app0R (r := s.Acked.map encRange) ?_ ?_ ?_ ?_ (h := ?_); (focus (first | with_reducible rfl | with_reducible exact List.nil_append _ | with_reducible exact (List.map_append ..).symm | (rw [take_snoc (by assumption), List.map_append]; rfl) | (rw [List.map_append]; rfl) | (simp; done))); (focus (first | exact len_none | exact len_one rfl | exact len_two rfl rfl | exact len_enc (fun _ => rfl))); (focus ((conv => lhs; rhs; whnf); simp only [List.length_map, List.length_append, List.length_cons, List.length_nil, List.length_take]; omega)); (focus (simp only [List.length_map, List.length_append, List.length_cons, List.length_nil, List.length_take]; omega))) | (refine go_ ?_; ((repeat' first | exact True.intro | refine Two.mk ?_ ?_); all_goals intros)) | fail "")
  all_goals first
    | (exact endwA_)
    | skip
end Go.Proofs.Ytfdomanbdfekhaa

/-
  The laws' sameSender, of a sender and itself.
-/
set_option linter.unusedVariables false
set_option linter.unusedSimpArgs false
set_option linter.unusedVariables false
namespace Go.Proofs.Ytfdomanbdfekhaa
set_option maxRecDepth 100000
attribute [local irreducible] Run RunL QStep GStep Fn Less PL FnM

set_option maxHeartbeats 2000000 in
theorem sameSender_refl (a : DSender) (ha : a.Lost.length * 16 ≤ 140737488351232) (hb : a.Acked.length * 16 ≤ 140737488351232) : Fn Try.prog 57 [.agg (encSender a), .agg (encSender a)] (.lit (.bool true)) := by
  have h1 := sameRanges_fn a.Lost a.Lost (by omega) (by omega)
  have h2 := sameRanges_fn a.Acked a.Acked (by omega) (by omega)
  have h3 := sameBytes_fn a.Data a.Data
  rw [yes_of rfl] at h1 h2 h3
  obtain ⟨data, f0, next, mx, lost, acked, en, ov⟩ := a
  dsimp only [encSender] at *
  cases f0 <;> cases en <;> cases ov
  all_goals refine fn_of_run (by kernel_rfl) Try.func57 rfl (by kernel_rfl) ?_
  all_goals (repeat' first | (refine s_call (h1) (h := ?_)) | (refine p_call (h1) (h := ?_)) | (refine s_call (h2) (h := ?_)) | (refine p_call (h2) (h := ?_)) | (refine s_call (h3) (h := ?_)) | (refine p_call (h3) (h := ?_)) | (refine go_ ?_; ((repeat' first | exact True.intro | refine Two.mk ?_ ?_); all_goals intros)) | fail "")
  all_goals first
    | exact ends_ (hr := rfl)
    | skip
end Go.Proofs.Ytfdomanbdfekhaa

/-
  sender.fresh: a copy of the call's own.
-/
set_option linter.unusedVariables false
set_option linter.unusedSimpArgs false
set_option linter.unusedVariables false
namespace Go.Proofs.Ytfdomanbdfekhaa
set_option maxRecDepth 100000
attribute [local irreducible] Run RunL QStep GStep Fn Less PL FnM

set_option maxHeartbeats 1000000 in
theorem senderFresh_fnm (s : DSender) (hw : wfSender s) :
    FnM Try.prog 108 [.agg (encSender s)] [] 0 (.agg [.own 0, .lit (.bool s.Fin), .lit (.int .i64 s.Next), .lit (.int .i64 s.Max), .own 1, .own 2, .lit (.bool s.Ended), .lit (.bool s.Over)]) [(0, some (.row 5 1 (s.Data.map encB))), (1, some (.row 153 2 (s.Lost.map encRange))), (2, some (.row 153 2 (s.Acked.map encRange)))] 3 := by
  have hl := hw.1
  have hl2 := hw.2.2.2.1
  have hl3 := hw.2.2.2.2.2.1
  refine fnm_of_run (by kernel_rfl) Try.func108 rfl (by kernel_rfl) (by rfl) ?_
  (repeat' first | (refine s_app (r := s.Data.map encB) ?_ ?_ ?_ ?_ (h := ?_); (focus (first | with_reducible rfl | with_reducible exact List.nil_append _ | with_reducible exact (List.map_append ..).symm | (rw [take_snoc (by assumption), List.map_append]; rfl) | (rw [List.map_append]; rfl) | (simp; done))); (focus (first | exact len_none | exact len_one rfl | exact len_two rfl rfl | exact len_enc (fun _ => rfl))); (focus ((conv => lhs; rhs; whnf); simp only [List.length_map, List.length_append, List.length_cons, List.length_nil, List.length_take]; omega)); (focus (simp only [List.length_map, List.length_append, List.length_cons, List.length_nil, List.length_take]; omega))) | (refine s_app0R (r := s.Data.map encB) ?_ ?_ ?_ ?_ (h := ?_); (focus (first | with_reducible rfl | with_reducible exact List.nil_append _ | with_reducible exact (List.map_append ..).symm | (rw [take_snoc (by assumption), List.map_append]; rfl) | (rw [List.map_append]; rfl) | (simp; done))); (focus (first | exact len_none | exact len_one rfl | exact len_two rfl rfl | exact len_enc (fun _ => rfl))); (focus ((conv => lhs; rhs; whnf); simp only [List.length_map, List.length_append, List.length_cons, List.length_nil, List.length_take]; omega)); (focus (simp only [List.length_map, List.length_append, List.length_cons, List.length_nil, List.length_take]; omega))) | (refine p_app (r := s.Data.map encB) ?_ ?_ ?_ ?_ (h := ?_); (focus (first | with_reducible rfl | with_reducible exact List.nil_append _ | with_reducible exact (List.map_append ..).symm | (rw [take_snoc (by assumption), List.map_append]; rfl) | (rw [List.map_append]; rfl) | (simp; done))); (focus (first | exact len_none | exact len_one rfl | exact len_two rfl rfl | exact len_enc (fun _ => rfl))); (focus ((conv => lhs; rhs; whnf); simp only [List.length_map, List.length_append, List.length_cons, List.length_nil, List.length_take]; omega)); (focus (simp only [List.length_map, List.length_append, List.length_cons, List.length_nil, List.length_take]; omega))) | (refine p_app0R (r := s.Data.map encB) ?_ ?_ ?_ ?_ (h := ?_); (focus (first | with_reducible rfl | with_reducible exact List.nil_append _ | with_reducible exact (List.map_append ..).symm | (rw [take_snoc (by assumption), List.map_append]; rfl) | (rw [List.map_append]; rfl) | (simp; done))); (focus (first | exact len_none | exact len_one rfl | exact len_two rfl rfl | exact len_enc (fun _ => rfl))); (focus ((conv => lhs; rhs; whnf); simp only [List.length_map, List.length_append, List.length_cons, List.length_nil, List.length_take]; omega)); (focus (simp only [List.length_map, List.length_append, List.length_cons, List.length_nil, List.length_take]; omega))) | (refine s_app (r := s.Lost.map encRange) ?_ ?_ ?_ ?_ (h := ?_); (focus (first | with_reducible rfl | with_reducible exact List.nil_append _ | with_reducible exact (List.map_append ..).symm | (rw [take_snoc (by assumption), List.map_append]; rfl) | (rw [List.map_append]; rfl) | (simp; done))); (focus (first | exact len_none | exact len_one rfl | exact len_two rfl rfl | exact len_enc (fun _ => rfl))); (focus ((conv => lhs; rhs; whnf); simp only [List.length_map, List.length_append, List.length_cons, List.length_nil, List.length_take]; omega)); (focus (simp only [List.length_map, List.length_append, List.length_cons, List.length_nil, List.length_take]; omega))) | (refine s_app0R (r := s.Lost.map encRange) ?_ ?_ ?_ ?_ (h := ?_); (focus (first | with_reducible rfl | with_reducible exact List.nil_append _ | with_reducible exact (List.map_append ..).symm | (rw [take_snoc (by assumption), List.map_append]; rfl) | (rw [List.map_append]; rfl) | (simp; done))); (focus (first | exact len_none | exact len_one rfl | exact len_two rfl rfl | exact len_enc (fun _ => rfl))); (focus ((conv => lhs; rhs; whnf); simp only [List.length_map, List.length_append, List.length_cons, List.length_nil, List.length_take]; omega)); (focus (simp only [List.length_map, List.length_append, List.length_cons, List.length_nil, List.length_take]; omega))) | (refine p_app (r := s.Lost.map encRange) ?_ ?_ ?_ ?_ (h := ?_); (focus (first | with_reducible rfl | with_reducible exact List.nil_append _ | with_reducible exact (List.map_append ..).symm | (rw [take_snoc (by assumption), List.map_append]; rfl) | (rw [List.map_append]; rfl) | (simp; done))); (focus (first | exact len_none | exact len_one rfl | exact len_two rfl rfl | exact len_enc (fun _ => rfl))); (focus ((conv => lhs; rhs; whnf); simp only [List.length_map, List.length_append, List.length_cons, List.length_nil, List.length_take]; omega)); (focus (simp only [List.length_map, List.length_append, List.length_cons, List.length_nil, List.length_take]; omega))) | (refine p_app0R (r := s.Lost.map encRange) ?_ ?_ ?_ ?_ (h := ?_); (focus (first | with_reducible rfl | with_reducible exact List.nil_append _ | with_reducible exact (List.map_append ..).symm | (rw [take_snoc (by assumption), List.map_append]; rfl) | (rw [List.map_append]; rfl) | (simp; done))); (focus (first | exact len_none | exact len_one rfl | exact len_two rfl rfl | exact len_enc (fun _ => rfl))); (focus ((conv => lhs; rhs; whnf); simp only [List.length_map, List.length_append, List.length_cons, List.length_nil, List.length_take]; omega)); (focus (simp only [List.length_map, List.length_append, List.length_cons, List.length_nil, List.length_take]; omega))) | (refine s_app (r := s.Acked.map encRange) ?_ ?_ ?_ ?_ (h := ?_); (focus (first | with_reducible rfl | with_reducible exact List.nil_append _ | with_reducible exact (List.map_append ..).symm | (rw [take_snoc (by assumption), List.map_append]; rfl) | (rw [List.map_append]; rfl) | (simp; done))); (focus (first | exact len_none | exact len_one rfl | exact len_two rfl rfl | exact len_enc (fun _ => rfl))); (focus ((conv => lhs; rhs; whnf); simp only [List.length_map, List.length_append, List.length_cons, List.length_nil, List.length_take]; omega)); (focus (simp only [List.length_map, List.length_append, List.length_cons, List.length_nil, List.length_take]; omega))) | (refine s_app0R (r := s.Acked.map encRange) ?_ ?_ ?_ ?_ (h := ?_); (focus (first | with_reducible rfl | with_reducible exact List.nil_append _ | with_reducible exact (List.map_append ..).symm | (rw [take_snoc (by assumption), List.map_append]; rfl) | (rw [List.map_append]; rfl) | (simp; done))); (focus (first | exact len_none | exact len_one rfl | exact len_two rfl rfl | exact len_enc (fun _ => rfl))); (focus ((conv => lhs; rhs; whnf); simp only [List.length_map, List.length_append, List.length_cons, List.length_nil, List.length_take]; omega)); (focus (simp only [List.length_map, List.length_append, List.length_cons, List.length_nil, List.length_take]; omega))) | (refine p_app (r := s.Acked.map encRange) ?_ ?_ ?_ ?_ (h := ?_); (focus (first | with_reducible rfl | with_reducible exact List.nil_append _ | with_reducible exact (List.map_append ..).symm | (rw [take_snoc (by assumption), List.map_append]; rfl) | (rw [List.map_append]; rfl) | (simp; done))); (focus (first | exact len_none | exact len_one rfl | exact len_two rfl rfl | exact len_enc (fun _ => rfl))); (focus ((conv => lhs; rhs; whnf); simp only [List.length_map, List.length_append, List.length_cons, List.length_nil, List.length_take]; omega)); (focus (simp only [List.length_map, List.length_append, List.length_cons, List.length_nil, List.length_take]; omega))) | (refine p_app0R (r := s.Acked.map encRange) ?_ ?_ ?_ ?_ (h := ?_); (focus (first | with_reducible rfl | with_reducible exact List.nil_append _ | with_reducible exact (List.map_append ..).symm | (rw [take_snoc (by assumption), List.map_append]; rfl) | (rw [List.map_append]; rfl) | (simp; done))); (focus (first | exact len_none | exact len_one rfl | exact len_two rfl rfl | exact len_enc (fun _ => rfl))); (focus ((conv => lhs; rhs; whnf); simp only [List.length_map, List.length_append, List.length_cons, List.length_nil, List.length_take]; omega)); (focus (simp only [List.length_map, List.length_append, List.length_cons, List.length_nil, List.length_take]; omega))) | (refine go_ ?_; ((repeat' first | exact True.intro | refine Two.mk ?_ ?_); all_goals intros)) | fail "")
  all_goals first
    | (exact endmA_)
    | skip
/-- P10.2 -/
noncomputable def wrR (s : DSender) (b : List UInt8) (fin : Bool) : DSender × Int :=
  if sndFlt s ≠ 0 then (sndZ, sndFlt s) else if s.Fin = true then (sndZ, 17) else if 600 < s.Data.length + b.length then (sndZ, 8) else ({ s with Data := s.Data ++ b, Fin := fin }, 0)
set_option maxHeartbeats 4000000 in
theorem senderWrite_fn (s : DSender) (b : List UInt8) (fin : Bool) (hw : wfSender s) (hb : b.length ≤ 1000000000000000) : Fn Try.prog 59 [.agg (encSender s), .ro (b.map encB), .lit (.bool fin)] (.tup [.agg (encSender (wrR s b fin).1), .lit (.int .i64 (wrR s b fin).2)]) := by
  have h1 := senderCheck_fn s hw
  have h2 := senderFresh_fnm s hw
  have w1 := hw.1
  clear hw
  unfold wrR
  rcases sndFlt_cases s with ⟨h0, hok⟩ | ⟨h0, hbad⟩
  · rw [h0] at h1
    rw [if_neg (by omega)]
    have hd : s.Data.length ≤ 600 := hok.1.1.1.1
    clear hok h0
    obtain ⟨data, f0, next, mx, lost, acked, en, ov⟩ := s
    dsimp only [encSender] at *
    cases f0
    · rw [if_neg (by decide)]
      by_cases hl : 600 < data.length + b.length
      · rw [if_pos hl]
        refine fn_of_run (by kernel_rfl) Try.func59 rfl (by kernel_rfl) ?_
        (repeat' first | (refine s_call (h1) (h := ?_)) | (refine p_call (h1) (h := ?_)) | (refine go_ ?_; ((repeat' first | exact True.intro | refine Two.mk ?_ ?_); all_goals intros)) | fail "")
        all_goals first
          | (exact endwA_)
          | skip
      · rw [if_neg hl]
        refine fn_of_run (by kernel_rfl) Try.func59 rfl (by kernel_rfl) ?_
        (repeat' first | (refine s_call (h1) (h := ?_)) | (refine p_call (h1) (h := ?_)) | (refine s_callM [] (h2) (h := ?_)) | (refine s_callM0 [] (h2) (h := ?_)) | (refine p_callN (h2) (h := ?_)) | refine s_callV [] (h2) (h := ?_) | (refine s_appro (r := (data ++ b).map encB) ?_ ?_ ?_ ?_ (h := ?_); (focus (first | (rw [List.map_append]) | with_reducible rfl | with_reducible exact List.nil_append _ | with_reducible exact (List.map_append ..).symm | (rw [take_snoc (by assumption), List.map_append]; rfl) | (rw [List.map_append]; rfl) | (simp; done))); (focus (first | exact len_none | exact len_one rfl | exact len_two rfl rfl | exact len_enc (fun _ => rfl))); (focus ((conv => lhs; rhs; whnf); simp only [List.length_map, List.length_append, List.length_cons, List.length_nil, List.length_take]; omega)); (focus (simp only [List.length_map, List.length_append, List.length_cons, List.length_nil, List.length_take]; omega))) | (refine s_app0roR (r := (data ++ b).map encB) ?_ ?_ ?_ ?_ (h := ?_); (focus (first | (rw [List.map_append]) | with_reducible rfl | with_reducible exact List.nil_append _ | with_reducible exact (List.map_append ..).symm | (rw [take_snoc (by assumption), List.map_append]; rfl) | (rw [List.map_append]; rfl) | (simp; done))); (focus (first | exact len_none | exact len_one rfl | exact len_two rfl rfl | exact len_enc (fun _ => rfl))); (focus ((conv => lhs; rhs; whnf); simp only [List.length_map, List.length_append, List.length_cons, List.length_nil, List.length_take]; omega)); (focus (simp only [List.length_map, List.length_append, List.length_cons, List.length_nil, List.length_take]; omega))) | (refine p_appro (r := (data ++ b).map encB) ?_ ?_ ?_ ?_ (h := ?_); (focus (first | (rw [List.map_append]) | with_reducible rfl | with_reducible exact List.nil_append _ | with_reducible exact (List.map_append ..).symm | (rw [take_snoc (by assumption), List.map_append]; rfl) | (rw [List.map_append]; rfl) | (simp; done))); (focus (first | exact len_none | exact len_one rfl | exact len_two rfl rfl | exact len_enc (fun _ => rfl))); (focus ((conv => lhs; rhs; whnf); simp only [List.length_map, List.length_append, List.length_cons, List.length_nil, List.length_take]; omega)); (focus (simp only [List.length_map, List.length_append, List.length_cons, List.length_nil, List.length_take]; omega))) | (refine p_app0roR (r := (data ++ b).map encB) ?_ ?_ ?_ ?_ (h := ?_); (focus (first | (rw [List.map_append]) | with_reducible rfl | with_reducible exact List.nil_append _ | with_reducible exact (List.map_append ..).symm | (rw [take_snoc (by assumption), List.map_append]; rfl) | (rw [List.map_append]; rfl) | (simp; done))); (focus (first | exact len_none | exact len_one rfl | exact len_two rfl rfl | exact len_enc (fun _ => rfl))); (focus ((conv => lhs; rhs; whnf); simp only [List.length_map, List.length_append, List.length_cons, List.length_nil, List.length_take]; omega)); (focus (simp only [List.length_map, List.length_append, List.length_cons, List.length_nil, List.length_take]; omega))) | (refine go_ ?_; ((repeat' first | exact True.intro | refine Two.mk ?_ ?_); all_goals intros)) | fail "")
        all_goals first
          | (exact endwA_)
          | skip
    · rw [if_pos rfl]
      refine fn_of_run (by kernel_rfl) Try.func59 rfl (by kernel_rfl) ?_
      (repeat' first | (refine s_call (h1) (h := ?_)) | (refine p_call (h1) (h := ?_)) | (refine go_ ?_; ((repeat' first | exact True.intro | refine Two.mk ?_ ?_); all_goals intros)) | fail "")
      all_goals first
        | (exact endwA_)
        | skip
  · rw [h0] at h1 ⊢
    rw [if_pos (by decide)]
    refine fn_of_run (by kernel_rfl) Try.func59 rfl (by kernel_rfl) ?_
    (repeat' first | (refine s_call (h1) (h := ?_)) | (refine p_call (h1) (h := ?_)) | (refine go_ ?_; ((repeat' first | exact True.intro | refine Two.mk ?_ ?_); all_goals intros)) | fail "")
    all_goals first
      | (exact endwA_)
      | skip
end Go.Proofs.Ytfdomanbdfekhaa

/-
  sender.Grant, and the reference's SenderWritten and SenderGranted: what they answer.
-/
set_option linter.unusedVariables false
set_option linter.unusedSimpArgs false
set_option linter.unusedVariables false
namespace Go.Proofs.Ytfdomanbdfekhaa
set_option maxRecDepth 100000
attribute [local irreducible] Run RunL QStep GStep Fn Less PL FnM

/-- P10.3 -/
noncomputable def grR (s : DSender) (n : Int) : DSender × Int :=
  if sndFlt s ≠ 0 then (sndZ, sndFlt s) else if 0 ≤ n ∧ n ≤ 4611686018427387903 then ({ s with Max := max s.Max n }, 0) else (sndZ, 6)
set_option maxHeartbeats 4000000 in
theorem senderWritten_fn (s : DSender) (b : List UInt8) (fin : Bool) (hw : U.wfSender s) (hb : b.length ≤ 4294967296) : Fn Try.prog 61 [.agg (encSender s), .ro (b.map encB), .lit (.bool fin)] (.tup [.agg (encSender (wrR s b fin).1), .lit (.int .i64 (wrR s b fin).2)]) := by
  have h1 := senderFault_fn s hw
  have w1 := hw.1
  clear hw
  unfold wrR
  rcases sndFlt_cases s with ⟨h0, hok⟩ | ⟨h0, hbad⟩
  · rw [h0] at h1
    rw [if_neg (by omega)]
    have hd : s.Data.length ≤ 600 := hok.1.1.1.1
    clear hok h0
    obtain ⟨data, f0, next, mx, lost, acked, en, ov⟩ := s
    dsimp only [encSender] at *
    cases f0
    · rw [if_neg (by decide)]
      by_cases hl : 600 < data.length + b.length
      · rw [if_pos hl]
        refine fn_of_run (by kernel_rfl) Try.func61 rfl (by kernel_rfl) ?_
        (repeat' first | (refine s_call (h1) (h := ?_)) | (refine p_call (h1) (h := ?_)) | (refine go_ ?_; ((repeat' first | exact True.intro | refine Two.mk ?_ ?_); all_goals intros)) | fail "")
        all_goals first
          | (exact endwA_)
          | skip
      · rw [if_neg hl]
        refine fn_of_run (by kernel_rfl) Try.func61 rfl (by kernel_rfl) ?_
        (repeat' first | (refine s_call (h1) (h := ?_)) | (refine p_call (h1) (h := ?_)) | (refine go_ ?_; ((repeat' first | exact True.intro | refine Two.mk ?_ ?_); all_goals intros)) | fail "")
        all_goals first
          | (exact endwA_)
          | skip
    · rw [if_pos rfl]
      refine fn_of_run (by kernel_rfl) Try.func61 rfl (by kernel_rfl) ?_
      (repeat' first | (refine s_call (h1) (h := ?_)) | (refine p_call (h1) (h := ?_)) | (refine go_ ?_; ((repeat' first | exact True.intro | refine Two.mk ?_ ?_); all_goals intros)) | fail "")
      all_goals first
        | (exact endwA_)
        | skip
  · rw [h0] at h1 ⊢
    rw [if_pos (by decide)]
    refine fn_of_run (by kernel_rfl) Try.func61 rfl (by kernel_rfl) ?_
    (repeat' first | (refine s_call (h1) (h := ?_)) | (refine p_call (h1) (h := ?_)) | (refine go_ ?_; ((repeat' first | exact True.intro | refine Two.mk ?_ ?_); all_goals intros)) | fail "")
    all_goals first
      | (exact endwA_)
      | skip
end Go.Proofs.Ytfdomanbdfekhaa

/-
  sender.Over: what it answers.
-/
set_option linter.unusedVariables false
set_option linter.unusedSimpArgs false
set_option linter.unusedVariables false
namespace Go.Proofs.Ytfdomanbdfekhaa
set_option maxRecDepth 100000
attribute [local irreducible] Run RunL QStep GStep Fn Less PL

def overP (s : DSender) : Prop := s.Over = true ∧ (s.Data.length = 0 ∨ s.Acked = [DRange.mk 0 ((s.Data.length : Int) - 1)])
noncomputable def ovB (s : DSender) : Bool := yes (sndOk s ∧ overP s)

theorem one_of {l : List DRange} (h : l.length = 1) : l = [l.getD 0 default] := by
  rcases l with _ | ⟨x, _ | ⟨y, r⟩⟩
  · simp at h
  · rfl
  · simp at h
set_option maxHeartbeats 4000000 in
theorem senderOver_fn (s : DSender) (hw : wfSender s) : Fn Try.prog 63 [.agg (encSender s)] (.tup [.lit (.bool (ovB s)), .lit (.int .i64 (sndFlt s))]) := by
  have h1 := senderCheck_fn s hw
  obtain ⟨w1, w2, w3, w4, w5, w6, w7⟩ := hw
  rcases sndFlt_cases s with ⟨h0, hok⟩ | ⟨h0, hbad⟩
  · rw [h0] at h1 ⊢
    have hb : ovB s = yes (overP s) := by unfold ovB; by_cases h : overP s; rw [yes_of h, yes_of ⟨hok, h⟩]; rw [no_of h, no_of (fun q => h q.2)]
    rw [hb]
    clear hb hok w5 w7
    obtain ⟨data, fin, next, mx, lost, acked, en, ov⟩ := s
    unfold overP
    dsimp only at *
    cases ov
    · rw [no_of (fun h => by cases h.1)]
      refine fn_of_run (by kernel_rfl) Try.func63 rfl (by kernel_rfl) ?_
      (repeat' first | (refine s_call (h1) (h := ?_)) | (refine p_call (h1) (h := ?_)) | (refine go_ ?_; ((repeat' first | exact True.intro | refine Two.mk ?_ ?_); all_goals intros)) | fail "")
      all_goals first
        | exact ends_ (hr := rfl)
        | skip
    · dsimp only [encSender] at h1 ⊢
      refine fn_of_run (by kernel_rfl) Try.func63 rfl (by kernel_rfl) ?_
      (repeat' first | (refine s_call (h1) (h := ?_)) | (refine p_call (h1) (h := ?_)) | (refine go_ ?_; ((repeat' first | exact True.intro | refine Two.mk ?_ ?_); all_goals intros)) | fail "")
      all_goals first
        | (refine ends_ (hr := ?_); rw [yes_of ⟨rfl, .inl (by omega)⟩])
        | (refine ends_ (hr := ?_); rw [yes_of ⟨rfl, .inr (by have h := ‹_ ∧ _›; rw [one_of (l := acked) (by omega), show acked.getD 0 default = DRange.mk 0 ((data.length : Int) - 1) from ext_Range h.1 h.2.1])⟩])
        | (refine ends_ (hr := ?_); rw [no_of (fun h => by rcases h.2 with h | h; omega; (rw [h] at *; simp_all))])
        | skip
  · rw [h0] at h1 ⊢
    rw [show ovB s = false from no_of (fun h => hbad h.1)]
    refine fn_of_run (by kernel_rfl) Try.func63 rfl (by kernel_rfl) ?_
    (repeat' first | (refine s_call (h1) (h := ?_)) | (refine p_call (h1) (h := ?_)) | (refine go_ ?_; ((repeat' first | exact True.intro | refine Two.mk ?_ ?_); all_goals intros)) | fail "")
    all_goals exact ends_ (hr := rfl)
end Go.Proofs.Ytfdomanbdfekhaa

/-
  The reference's SenderOver: the plain part: what is left of the data when all that was heard of is taken out.
-/
set_option linter.unusedVariables false
set_option linter.unusedSimpArgs false
set_option linter.unusedVariables false
namespace Go.Proofs.Ytfdomanbdfekhaa
set_option maxRecDepth 100000
attribute [local irreducible] Run RunL QStep GStep Fn Less PL

theorem hStep_keep (r : DRange) : ∀ (l : List DRange) (s : Int × List DRange), s.2 ≠ [] → (l.foldl (hStep r) s).2 ≠ []
  | [], s, h => h
  | x :: l, s, h => by
    rw [List.foldl_cons]
    refine hStep_keep r l _ ?_
    unfold hStep
    split
    · exact h
    · simp [h]
theorem hEnd_keep {r : DRange} {s : Int × List DRange} (h : s.2 ≠ []) : hEnd r s ≠ [] := by unfold hEnd; simp [h]
theorem over_iff {A : List DRange} {n : Int} (hs : rSet (-2) A) (hn : 1 ≤ n) (hn2 : n ≤ 600) (hlow : ∀ x ∈ A, x.Hi < n) : hol A ⟨0, n - 1⟩ A.length = [] ↔ A = [DRange.mk 0 (n - 1)] := by
  have hr : rGood ⟨0, n - 1⟩ := by unfold rGood; dsimp only; omega
  rw [hol_end hs hr]
  unfold hSt
  rw [List.take_length]
  rcases A with _ | ⟨x, l⟩
  · constructor
    · intro h
      unfold hEnd at h
      rw [if_pos (by dsimp only [List.foldl_nil]; omega)] at h
      simp at h
    · intro h; cases h
  · have hx := (rSet_good hs x (by simp)).1
    have hxl := hlow x (by simp)
    unfold rGood at hx
    rw [List.foldl_cons]
    have e : hStep ⟨0, n - 1⟩ ((DRange.mk 0 (n - 1)).Lo, []) x = (x.Hi + 1, if 0 < x.Lo then [⟨0, x.Lo - 1⟩] else []) := by
      unfold hStep
      rw [if_neg (by dsimp only; omega)]
      rfl
    rw [e]
    by_cases h0 : 0 < x.Lo
    · rw [if_pos h0]
      constructor
      · intro h; exact absurd h (hEnd_keep (hStep_keep _ _ _ (by simp)))
      · intro h; injection h with h _; subst h; dsimp only at h0; omega
    · rw [if_neg h0]
      rcases l with _ | ⟨y, l⟩
      · rw [List.foldl_nil]
        unfold hEnd
        dsimp only
        constructor
        · intro h
          split at h
          · simp at h
          · rw [show x = DRange.mk 0 (n - 1) from ext_Range (by dsimp only; omega) (by dsimp only; omega)]
        · intro h
          injection h with h _
          subst h
          rw [if_neg (by dsimp only; omega)]
          rfl
      · have hy := (rSet_good hs.2.2 y (by simp))
        have hyl := hlow y (by simp)
        unfold rGood at hy
        constructor
        · intro h
          refine absurd h (hEnd_keep ?_)
          rw [List.foldl_cons]
          refine hStep_keep _ _ _ ?_
          unfold hStep
          rw [if_neg (by dsimp only; omega), if_pos (by dsimp only; omega)]
          simp
        · intro h; cases h
end Go.Proofs.Ytfdomanbdfekhaa

/-
  The reference's SenderOver: what it answers.
-/
set_option linter.unusedVariables false
set_option linter.unusedSimpArgs false
set_option linter.unusedVariables false
namespace Go.Proofs.Ytfdomanbdfekhaa
set_option maxRecDepth 100000
attribute [local irreducible] Run RunL QStep GStep Fn Less PL

set_option maxHeartbeats 4000000 in
theorem senderOverRef_fn (s : DSender) (hw : U.wfSender s) : Fn Try.prog 65 [.agg (encSender s)] (.tup [.lit (.bool (ovB s)), .lit (.int .i64 (sndFlt s))]) := by
  have h1 := senderFault_fn s hw
  have u6 := hw.2.2.2.2.2.1
  clear hw
  rcases sndFlt_cases s with ⟨h0, hok⟩ | ⟨h0, hbad⟩
  · rw [h0] at h1 ⊢
    have hb : ovB s = yes (overP s) := by unfold ovB; by_cases h : overP s; rw [yes_of h, yes_of ⟨hok, h⟩]; rw [no_of h, no_of (fun q => h q.2)]
    rw [hb]
    have hh := hok.1.1.1
    have hs := rFlt_set hh.2.2.2.2.2.2.1
    have hlow := (lastLow_iff hs).1 hok.1.2
    have hn : s.Next ≤ s.Data.length ∧ s.Data.length ≤ 600 := by unfold sndHead at hh; omega
    clear hb hok hh
    obtain ⟨data, fin, next, mx, lost, acked, en, ov⟩ := s
    unfold overP
    dsimp only at *
    dsimp only [encSender] at h1 ⊢
    by_cases hd : data.length = 0
    · obtain rfl : acked = [] := by
        rcases acked with _ | ⟨x, l⟩
        · rfl
        · have := (rSet_good hs x (by simp)).1
          have := hlow x (by simp)
          unfold rGood at *
          omega
      refine fn_of_run (by kernel_rfl) Try.func65 rfl (by kernel_rfl) ?_
      (repeat' first | (refine s_call (h1) (h := ?_)) | (refine p_call (h1) (h := ?_)) | (refine go_ ?_; ((repeat' first | exact True.intro | refine Two.mk ?_ ?_); all_goals intros)) | fail "")
      refine r_for (fun _ : Unit => ⟨[(1, .ptr 0 0 0 0), (5, .lit (.slice none 0 0)), (24, .ro []), (25, .lit (.int .i64 0)), (26, .lit (.int .i64 0))], [(0, some (.box 99 [.ro (data.map encB), .lit (.bool fin), .lit (.int .i64 next), .lit (.int .i64 mx), .ro (lost.map encRange), .ro [], .lit (.bool en), .lit (.bool ov)]))], 1, Try.f65.ntmps⟩) (fun _ => True) (fun _ => 0) () trivial less_to ?_
      intro _ _
      cases ov
      · (repeat' first | (refine go_ ?_; ((repeat' first | exact True.intro | refine Two.mk ?_ ?_); all_goals intros)) | fail "")
        all_goals (refine ends_ (hr := ?_); rw [no_of (fun h => by cases h.1)])
      · (repeat' first | (refine go_ ?_; ((repeat' first | exact True.intro | refine Two.mk ?_ ?_); all_goals intros)) | fail "")
        all_goals (refine ends_ (hr := ?_); rw [yes_of ⟨rfl, .inl hd⟩])
    · have hov := over_iff (n := data.length) hs (by omega) (by omega) (fun x hx => by have := hlow x hx; omega)
      have hset := fun k hk => hol_set (l := acked) (r := ⟨0, (data.length : Int) - 1⟩) hs (by unfold rGood; dsimp only; omega) k hk
      refine fn_of_run (by kernel_rfl) Try.func65 rfl (by kernel_rfl) ?_
      (repeat' first | (refine s_call (h1) (h := ?_)) | (refine p_call (h1) (h := ?_)) | (refine s_litR (r := [DRange.mk 0 ((data.length : Int) - 1)].map encRange) (hr := ?_) (h := ?_); (focus (rfl))) | (refine goI_ ?_; ((repeat' first | exact True.intro | refine Two.mk ?_ ?_); all_goals intros)) | refine s_i (h := ?_) | refine s_i (hq := q_index_ro rfl rfl rfl (by first | exact lit0 | exact lit1 | exact lit2 | exact lit3 | rfl) (by simp only [List.length_cons, List.length_nil]; omega) rfl rfl rfl rfl) (h := ?_) | refine p_i (h := ?_) | refine p_ih (h := ?_) | refine s_lit (h := ?_) | refine p_lit (h := ?_) | refine p_lit0 (h := ?_) | refine s_lit0 (h := ?_) | refine s_ixa (h := ?_) | refine s_insert (h := ?_) | ((first | refine s_sadd rfl ?_ (h := ?_) | refine p_sadd rfl ?_ (h := ?_)); (focus (first | omega | (simp only [List.length_append, List.length_map, List.length_cons, List.length_nil, List.length_take, List.length_drop]; omega)))) | fail "")
      refine r_for (fun k : Nat => ⟨[(1, .ptr 0 0 0 0), (5, .ro ((hol acked ⟨0, (data.length : Int) - 1⟩ k).map encRange)), (24, .ro (acked.map encRange)), (25, .lit (.int .i64 acked.length)), (26, .lit (.int .i64 k))], [(0, some (.box 99 [.ro (data.map encB), .lit (.bool fin), .lit (.int .i64 next), .lit (.int .i64 mx), .ro (lost.map encRange), .ro (acked.map encRange), .lit (.bool en), .lit (.bool ov)]))], 1, Try.f65.ntmps⟩)
        (fun k => k ≤ acked.length) (fun k => acked.length - k) 0 (Nat.zero_le _) less_to ?_
      intro k hk
      by_cases hkn : k < acked.length
      · have hq := hset k hk
        have hwo := without_fn (hol acked ⟨0, (data.length : Int) - 1⟩ k) (acked.getD k default) hq.1 (rSet_good hs _ (getD_mem hkn)).1 (by omega)
        rw [← hol_snoc hkn] at hwo
        (repeat' first | (refine s_call (hwo) (h := ?_)) | (refine p_call (hwo) (h := ?_)) | (refine go_ ?_; ((repeat' first | exact True.intro | refine Two.mk ?_ ?_); all_goals intros)) | fail "")
        all_goals (refine ⟨k + 1, ?_, ?_, ?_⟩; rotate_left 2; (exact lessA_); (focus (omega)); (focus (exact hkn)))
      · have hkl : k = acked.length := by omega
        subst hkl
        have hq := (hset acked.length hk).2
        clear h1 hset
        cases ov
        · (repeat' first | (refine go_ ?_; ((repeat' first | exact True.intro | refine Two.mk ?_ ?_); all_goals intros)) | fail "")
          all_goals (refine ends_ (hr := ?_); rw [no_of (fun h => by cases h.1)])
        · by_cases he : hol acked ⟨0, (data.length : Int) - 1⟩ acked.length = []
          · have hl0 : (hol acked ⟨0, (data.length : Int) - 1⟩ acked.length).length = 0 := by rw [he]; rfl
            (repeat' first | (refine go_ ?_; ((repeat' first | exact True.intro | refine Two.mk ?_ ?_); all_goals intros)) | fail "")
            all_goals (refine ends_ (hr := ?_); rw [yes_of ⟨rfl, .inr (hov.1 he)⟩])
          · have hl0 : 0 < (hol acked ⟨0, (data.length : Int) - 1⟩ acked.length).length := List.length_pos_iff.2 he
            (repeat' first | (refine go_ ?_; ((repeat' first | exact True.intro | refine Two.mk ?_ ?_); all_goals intros)) | fail "")
            all_goals (refine ends_ (hr := ?_); rw [no_of (fun h => by rcases h.2 with h | h; exact hd h; exact he (hov.2 h))])
  · rw [h0] at h1 ⊢
    rw [show ovB s = false from no_of (fun h => hbad h.1)]
    refine fn_of_run (by kernel_rfl) Try.func65 rfl (by kernel_rfl) ?_
    (repeat' first | (refine s_call (h1) (h := ?_)) | (refine p_call (h1) (h := ?_)) | (refine go_ ?_; ((repeat' first | exact True.intro | refine Two.mk ?_ ?_); all_goals intros)) | fail "")
    all_goals exact ends_ (hr := rfl)
end Go.Proofs.Ytfdomanbdfekhaa

/-
  The laws' sameSender, of a sender and itself; SenderWrites' answer.
-/
set_option linter.unusedVariables false
set_option linter.unusedSimpArgs false
set_option linter.unusedVariables false
namespace Go.Proofs.Ytfdomanbdfekhaa
set_option maxRecDepth 100000
attribute [local irreducible] Run RunL QStep GStep Fn Less PL FnM

theorem wr_same (s : DSender) (b : List UInt8) (fin : Bool) (hw : wfSender s) : (wrR s b fin).1.Lost.length * 16 ≤ 140737488351232 ∧ (wrR s b fin).1.Acked.length * 16 ≤ 140737488351232 := by
  have h1 := hw.2.2.2.1
  have h2 := hw.2.2.2.2.2.1
  unfold wrR
  split
  · exact ⟨by simp [sndZ], by simp [sndZ]⟩
  · split
    · exact ⟨by simp [sndZ], by simp [sndZ]⟩
    · split
      · exact ⟨by simp [sndZ], by simp [sndZ]⟩
      · exact ⟨h1, h2⟩
theorem gr_same (s : DSender) (n : Int) (hw : wfSender s) : (grR s n).1.Lost.length * 16 ≤ 140737488351232 ∧ (grR s n).1.Acked.length * 16 ≤ 140737488351232 := by
  have h1 := hw.2.2.2.1
  have h2 := hw.2.2.2.2.2.1
  unfold grR
  split
  · exact ⟨by simp [sndZ], by simp [sndZ]⟩
  · split
    · exact ⟨h1, h2⟩
    · exact ⟨by simp [sndZ], by simp [sndZ]⟩
end Go.Proofs.Ytfdomanbdfekhaa
