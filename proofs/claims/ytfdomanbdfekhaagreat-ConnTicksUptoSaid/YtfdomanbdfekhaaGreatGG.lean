/-
  SEVERAL TEXTS IN ONE: each with its own comment.
-/
import Derived.Test.YtfdomanbdfekhaaGreatGA
import Derived.Test.YtfdomanbdfekhaaGreatGF
import Derived.Test.YtfdomanbdfekhaaGreatGE
import Derived.Test.YtfdomanbdfekhaaGreatGB
import Derived.Test.YtfdomanbdfekhaaGreatGC
/-
  The reference's SenderFault: what it answers, within the bound of the second form.
-/
set_option linter.unusedVariables false
set_option linter.unusedSimpArgs false
set_option linter.unusedVariables false
namespace Go.Proofs.YtfdomanbdfekhaaGreat
set_option maxRecDepth 100000
attribute [local irreducible] Run RunL QStep GStep Fn Less PL

theorem lastLow_iff {n : Int} : ∀ {l : List DRange} {a : Int}, rSet a l → (lastLow n l ↔ ∀ x ∈ l, x.Hi < n)
  | [], a, _ => ⟨fun _ x hx => (by cases hx), fun _ h => absurd h (by simp)⟩
  | [x], a, _ => ⟨fun h y hy => (by rw [List.mem_singleton] at hy; subst hy; exact h (by simp)), fun h _ => h x (by simp)⟩
  | x :: y :: r, a, h => by
    have ih := lastLow_iff (n := n) (l := y :: r) h.2.2
    have hy := rSet_good h.2.2 y (by simp)
    unfold rGood at hy
    have e : lastLow n (x :: y :: r) ↔ lastLow n (y :: r) := by
      unfold lastLow
      simp only [List.length_cons, Nat.add_sub_cancel, List.getD_cons_succ]
      exact ⟨fun q _ => q (by omega), fun q _ => q (by omega)⟩
    rw [e, ih]
    constructor
    · intro q z hz
      rcases List.mem_cons.1 hz with rfl | hz
      · have := q y (by simp); omega
      · exact q z hz
    · intro q z hz
      exact q z (List.mem_cons_of_mem _ hz)
theorem allTo_memR {l : List DRange} {Q : DRange → Prop} : AllTo (fun i => Q (l.getD i default)) l.length ↔ ∀ x ∈ l, Q x := by
  constructor
  · intro h x hx
    obtain ⟨i, hi, rfl⟩ := List.getElem_of_mem hx
    have := h i hi
    dsimp only at this
    rwa [List.getD_eq_getElem?_getD, List.getElem?_eq_getElem hi] at this
  · intro h i hi
    exact h _ (getD_mem hi)
theorem sndOk_iff (s : DSender) : sndOk s ↔ (sndHead s ∧ AllTo (fun i => ((s.Lost ++ s.Acked).getD i default).Hi < s.Next) (s.Lost ++ s.Acked).length) ∧ apartL s.Lost s.Acked := by
  have e := allTo_memR (l := s.Lost ++ s.Acked) (Q := fun x => x.Hi < s.Next)
  unfold sndOk
  constructor
  · rintro ⟨⟨⟨h1, h2⟩, h3⟩, h4⟩
    refine ⟨⟨h1, e.2 fun x hx => ?_⟩, h4⟩
    rcases List.mem_append.1 hx with hx | hx
    · exact (lastLow_iff (rFlt_set h1.2.2.2.2.2.1)).1 h2 x hx
    · exact (lastLow_iff (rFlt_set h1.2.2.2.2.2.2.1)).1 h3 x hx
  · rintro ⟨⟨h1, h2⟩, h4⟩
    have h2 := e.1 h2
    exact ⟨⟨⟨h1, (lastLow_iff (rFlt_set h1.2.2.2.2.2.1)).2 fun x hx => h2 x (List.mem_append.2 (.inl hx))⟩, (lastLow_iff (rFlt_set h1.2.2.2.2.2.2.1)).2 fun x hx => h2 x (List.mem_append.2 (.inr hx))⟩, h4⟩

def sndNum (s : DSender) : Prop := s.Data.length ≤ 600 ∧ 0 ≤ s.Next ∧ s.Next ≤ s.Data.length ∧ s.Next ≤ s.Max ∧ s.Max ≤ 4611686018427387903 ∧ rFlt s.Lost = 0 ∧ rFlt s.Acked = 0
theorem sndHead_iff (s : DSender) : sndHead s ↔ sndNum s ∧ sndFl s.Fin s.Ended s.Over = true ∧ ((s.Ended || s.Over) = true → s.Next = s.Data.length) := by
  unfold sndHead sndNum
  constructor
  · rintro ⟨a, b, c, d, e, f, g, h, i⟩; exact ⟨⟨a, b, c, d, e, f, g⟩, h, i⟩
  · rintro ⟨⟨a, b, c, d, e, f, g⟩, h, i⟩; exact ⟨a, b, c, d, e, f, g, h, i⟩

set_option maxHeartbeats 4000000 in
theorem senderFault_fn (s : DSender) (hw : U.wfSender s) : Fn Tryz.prog 42 [.agg (encSender s)] (.lit (.int .i64 (sndFlt s))) := by
  obtain ⟨w1, w2, w3, w4, w5, w6, w7⟩ := U.wf_leSender s hw
  have u4 := hw.2.2.2.1
  have u6 := hw.2.2.2.2.2.1
  clear hw
  unfold I64 at w2 w3
  have h1 := rangesFaultRef_fn s.Lost w5 (by omega)
  have h2 := rangesFaultRef_fn s.Acked w7 (by omega)
  have h3 := overlap_fn s.Lost s.Acked (by omega) (by omega)
  clear w5 w7
  refine fn_of_run (by kernel_rfl) Tryz.func42 rfl (by kernel_rfl) ?_
  refine r_seq ?_
  refine r_region ?_
  (repeat' first | (refine goS_ ?_; ((repeat' first | exact True.intro | refine Two.mk ?_ ?_); all_goals intros)) | fail "")
  refine thenQ_n ?_
  refine r_cut (fun ok : Bool => ⟨[(1, .ptr 0 0 0 0), (2, .lit (.int .i64 0)), (3, .lit (.bool ok))], [(0, some (.box 59 (encSender s)))], 1, Tryz.f42.ntmps⟩) (fun ok => ok = true ↔ sndNum s) ?_ ?_
  · unfold sndNum
    (repeat' first | (refine s_dec (upTo_fn _ _) (ht := ?_) (hff := ?_) <;> intro _ <;> try (exfalso; omega)) | (refine p_dec (upTo_fn _ _) (ht := ?_) (hff := ?_) <;> intro _ <;> try (exfalso; omega)) | (refine s_call (h1) (h := ?_)) | (refine p_call (h1) (h := ?_)) | (refine s_call (h2) (h := ?_)) | (refine p_call (h2) (h := ?_)) | (refine go_ ?_; ((repeat' first | exact True.intro | refine Two.mk ?_ ?_); all_goals intros)) | fail "")
    all_goals first
      | (refine ⟨true, ?_, ?_⟩; rotate_left 1; (exact lessA_); (focus (exact ⟨fun _ => (by omega), fun _ => rfl⟩)))
      | (refine ⟨false, ?_, ?_⟩; rotate_left 1; (exact lessA_); (focus (exact ⟨(fun h => by cases h), fun h => (by omega)⟩)))
      | skip
  rintro ok hok
  clear h1 h2
  refine r_cut (fun ok : Bool => ⟨[(1, .ptr 0 0 0 0), (2, .lit (.int .i64 0)), (3, .lit (.bool ok))], [(0, some (.box 59 (encSender s)))], 1, Tryz.f42.ntmps⟩) (fun ok => ok = true ↔ sndHead s) ?_ ?_
  · rw [sndHead_iff]
    cases ok
    · have hn : ¬ sndNum s := fun h => by have := hok.2 h; cases this
      clear hok
      (repeat' first | (refine go_ ?_; ((repeat' first | exact True.intro | refine Two.mk ?_ ?_); all_goals intros)) | fail "")
      all_goals first
        | (refine ⟨false, ?_, ?_⟩; rotate_left 1; (exact lessA_); (focus (exact ⟨(fun h => by cases h), fun h => absurd h.1 hn⟩)))
        | skip
    · have hn := hok.1 rfl
      clear hok
      obtain ⟨data, fin, next, mx, lost, acked, en, ov⟩ := s
      dsimp only at *
      cases fin <;> cases en <;> cases ov
      all_goals (repeat' first | (refine go_ ?_; ((repeat' first | exact True.intro | refine Two.mk ?_ ?_); all_goals intros)) | fail "")
      all_goals first
        | (refine ⟨true, ?_, ?_⟩; rotate_left 1; (exact lessA_); (focus (exact ⟨fun _ => ⟨hn, rfl, fun h => (by first | omega | cases h)⟩, fun _ => rfl⟩)))
        | (refine ⟨false, ?_, ?_⟩; rotate_left 1; (exact lessA_); (focus (exact ⟨(fun h => by cases h), fun h => (by obtain ⟨_, q8, q9⟩ := h; first | (cases q8; done) | (exfalso; have q9 := q9 rfl; dsimp only at *; omega))⟩)))
        | skip
  clear ok hok
  rintro ok hok
  have hll : (s.Lost ++ s.Acked).length = s.Lost.length + s.Acked.length := List.length_append
  have hiff := sndOk_iff s
  (repeat' first | (refine s_app (r := s.Lost.map encRange) ?_ ?_ ?_ ?_ (h := ?_); (focus (first | with_reducible rfl | with_reducible exact List.nil_append _ | with_reducible exact (List.map_append ..).symm | (rw [take_snoc (by assumption), List.map_append]; rfl) | (rw [List.map_append]; rfl) | (simp; done))); (focus (first | exact len_none | exact len_one rfl | exact len_two rfl rfl | exact len_enc (fun _ => rfl))); (focus ((conv => lhs; rhs; whnf); simp only [List.length_map, List.length_append, List.length_cons, List.length_nil, List.length_take]; omega)); (focus (simp only [List.length_map, List.length_append, List.length_cons, List.length_nil, List.length_take]; omega))) | (refine s_app0R (r := s.Lost.map encRange) ?_ ?_ ?_ ?_ (h := ?_); (focus (first | with_reducible rfl | with_reducible exact List.nil_append _ | with_reducible exact (List.map_append ..).symm | (rw [take_snoc (by assumption), List.map_append]; rfl) | (rw [List.map_append]; rfl) | (simp; done))); (focus (first | exact len_none | exact len_one rfl | exact len_two rfl rfl | exact len_enc (fun _ => rfl))); (focus ((conv => lhs; rhs; whnf); simp only [List.length_map, List.length_append, List.length_cons, List.length_nil, List.length_take]; omega)); (focus (simp only [List.length_map, List.length_append, List.length_cons, List.length_nil, List.length_take]; omega))) | (refine p_app (r := s.Lost.map encRange) ?_ ?_ ?_ ?_ (h := ?_); (focus (first | with_reducible rfl | with_reducible exact List.nil_append _ | with_reducible exact (List.map_append ..).symm | (rw [take_snoc (by assumption), List.map_append]; rfl) | (rw [List.map_append]; rfl) | (simp; done))); (focus (first | exact len_none | exact len_one rfl | exact len_two rfl rfl | exact len_enc (fun _ => rfl))); (focus ((conv => lhs; rhs; whnf); simp only [List.length_map, List.length_append, List.length_cons, List.length_nil, List.length_take]; omega)); (focus (simp only [List.length_map, List.length_append, List.length_cons, List.length_nil, List.length_take]; omega))) | (refine p_app0R (r := s.Lost.map encRange) ?_ ?_ ?_ ?_ (h := ?_); (focus (first | with_reducible rfl | with_reducible exact List.nil_append _ | with_reducible exact (List.map_append ..).symm | (rw [take_snoc (by assumption), List.map_append]; rfl) | (rw [List.map_append]; rfl) | (simp; done))); (focus (first | exact len_none | exact len_one rfl | exact len_two rfl rfl | exact len_enc (fun _ => rfl))); (focus ((conv => lhs; rhs; whnf); simp only [List.length_map, List.length_append, List.length_cons, List.length_nil, List.length_take]; omega)); (focus (simp only [List.length_map, List.length_append, List.length_cons, List.length_nil, List.length_take]; omega))) | (refine s_appro (r := (s.Lost ++ s.Acked).map encRange) ?_ ?_ ?_ ?_ (h := ?_); (focus (first | (rw [List.map_append]) | with_reducible rfl | with_reducible exact List.nil_append _ | with_reducible exact (List.map_append ..).symm | (rw [take_snoc (by assumption), List.map_append]; rfl) | (rw [List.map_append]; rfl) | (simp; done))); (focus (first | exact len_none | exact len_one rfl | exact len_two rfl rfl | exact len_enc (fun _ => rfl))); (focus ((conv => lhs; rhs; whnf); simp only [List.length_map, List.length_append, List.length_cons, List.length_nil, List.length_take]; omega)); (focus (simp only [List.length_map, List.length_append, List.length_cons, List.length_nil, List.length_take]; omega))) | (refine s_app0roR (r := (s.Lost ++ s.Acked).map encRange) ?_ ?_ ?_ ?_ (h := ?_); (focus (first | (rw [List.map_append]) | with_reducible rfl | with_reducible exact List.nil_append _ | with_reducible exact (List.map_append ..).symm | (rw [take_snoc (by assumption), List.map_append]; rfl) | (rw [List.map_append]; rfl) | (simp; done))); (focus (first | exact len_none | exact len_one rfl | exact len_two rfl rfl | exact len_enc (fun _ => rfl))); (focus ((conv => lhs; rhs; whnf); simp only [List.length_map, List.length_append, List.length_cons, List.length_nil, List.length_take]; omega)); (focus (simp only [List.length_map, List.length_append, List.length_cons, List.length_nil, List.length_take]; omega))) | (refine p_appro (r := (s.Lost ++ s.Acked).map encRange) ?_ ?_ ?_ ?_ (h := ?_); (focus (first | (rw [List.map_append]) | with_reducible rfl | with_reducible exact List.nil_append _ | with_reducible exact (List.map_append ..).symm | (rw [take_snoc (by assumption), List.map_append]; rfl) | (rw [List.map_append]; rfl) | (simp; done))); (focus (first | exact len_none | exact len_one rfl | exact len_two rfl rfl | exact len_enc (fun _ => rfl))); (focus ((conv => lhs; rhs; whnf); simp only [List.length_map, List.length_append, List.length_cons, List.length_nil, List.length_take]; omega)); (focus (simp only [List.length_map, List.length_append, List.length_cons, List.length_nil, List.length_take]; omega))) | (refine p_app0roR (r := (s.Lost ++ s.Acked).map encRange) ?_ ?_ ?_ ?_ (h := ?_); (focus (first | (rw [List.map_append]) | with_reducible rfl | with_reducible exact List.nil_append _ | with_reducible exact (List.map_append ..).symm | (rw [take_snoc (by assumption), List.map_append]; rfl) | (rw [List.map_append]; rfl) | (simp; done))); (focus (first | exact len_none | exact len_one rfl | exact len_two rfl rfl | exact len_enc (fun _ => rfl))); (focus ((conv => lhs; rhs; whnf); simp only [List.length_map, List.length_append, List.length_cons, List.length_nil, List.length_take]; omega)); (focus (simp only [List.length_map, List.length_append, List.length_cons, List.length_nil, List.length_take]; omega))) | (refine go_ ?_; ((repeat' first | exact True.intro | refine Two.mk ?_ ?_); all_goals intros)) | fail "")
  generalize s.Lost ++ s.Acked = L at *
  refine r_for (fun x : Nat × Bool => ⟨[(1, .ptr 0 0 0 0), (2, .lit (.int .i64 0)), (3, .lit (.bool x.2)), (79, .ro (L.map encRange)), (80, .lit (.int .i64 L.length)), (81, .lit (.int .i64 x.1))], [(0, some (.box 59 (encSender s)))], 1, Tryz.f42.ntmps⟩)
    (fun x => x.1 ≤ L.length ∧ (x.2 = true ↔ sndHead s ∧ AllTo (fun i => (L.getD i default).Hi < s.Next) x.1)) (fun x => L.length - x.1) (0, ok) ⟨Nat.zero_le _, by rw [hok]; exact ⟨fun h => ⟨h, allTo0⟩, fun h => h.1⟩⟩ (by (try dsimp only); (exact lessA_)) ?_
  rintro ⟨k, ok⟩ ⟨hk, hi⟩
  dsimp only at hk hi ⊢
  by_cases hkn : k < L.length
  · have hs := allTo_succ (Q := fun i => (L.getD i default).Hi < s.Next) (k := k)
    cases ok
    · have hi : ¬ (sndHead s ∧ AllTo (fun i => (L.getD i default).Hi < s.Next) k) := fun h => by have := hi.2 h; cases this
      (repeat' first | (refine go_ ?_; ((repeat' first | exact True.intro | refine Two.mk ?_ ?_); all_goals intros)) | fail "")
      all_goals first
        | (refine ⟨(k + 1, false), ?_, ?_, ?_⟩; rotate_left 2; (exact lessA_); (focus (dsimp only; omega)); (focus (exact ⟨hkn, (fun h => by cases h), fun h => absurd ⟨h.1, (hs.1 h.2).1⟩ hi⟩)))
        | skip
    · obtain ⟨hh, ha⟩ := hi.1 rfl
      (repeat' first | (refine go_ ?_; ((repeat' first | exact True.intro | refine Two.mk ?_ ?_); all_goals intros)) | fail "")
      all_goals first
        | (refine ⟨(k + 1, true), ?_, ?_, ?_⟩; rotate_left 2; (exact lessA_); (focus (dsimp only; omega)); (focus (exact ⟨hkn, fun _ => ⟨hh, hs.2 ⟨ha, by assumption⟩⟩, fun _ => rfl⟩)))
        | (refine ⟨(k + 1, false), ?_, ?_, ?_⟩; rotate_left 2; (exact lessA_); (focus (dsimp only; omega)); (focus (exact ⟨hkn, (fun h => by cases h), fun h => (by have h2 := (hs.1 h.2).2; (try dsimp only at h2); omega)⟩)))
        | skip
  · have hkl : k = L.length := by omega
    subst hkl
    cases ok
    · rw [sndFlt_f (fun h => by have := hi.2 (hiff.1 h).1; cases this)]
      (repeat' first | (refine go_ ?_; ((repeat' first | exact True.intro | refine Two.mk ?_ ?_); all_goals intros)) | fail "")
      all_goals exact ends_ (hr := rfl)
    · have hi := hi.1 rfl
      by_cases ha : apartL s.Lost s.Acked
      · rw [sndFlt_t (hiff.2 ⟨hi, ha⟩)]
        rw [no_of (fun h => h ha)] at h3
        (repeat' first | (refine s_call (h3) (h := ?_)) | (refine p_call (h3) (h := ?_)) | (refine go_ ?_; ((repeat' first | exact True.intro | refine Two.mk ?_ ?_); all_goals intros)) | fail "")
        all_goals exact ends_ (hr := rfl)
      · rw [sndFlt_f (fun h => ha (hiff.1 h).2)]
        rw [yes_of ha] at h3
        (repeat' first | (refine s_call (h3) (h := ?_)) | (refine p_call (h3) (h := ?_)) | (refine go_ ?_; ((repeat' first | exact True.intro | refine Two.mk ?_ ?_); all_goals intros)) | fail "")
        all_goals exact ends_ (hr := rfl)
end Go.Proofs.YtfdomanbdfekhaaGreat

/-
  No sender; sender.fresh: a copy, as data.
-/
set_option linter.unusedVariables false
set_option linter.unusedSimpArgs false
set_option linter.unusedVariables false
namespace Go.Proofs.YtfdomanbdfekhaaGreat
set_option maxRecDepth 100000
attribute [local irreducible] Run RunL QStep GStep Fn Less PL FnM

/-- no sender -/
def sndZ : DSender := ⟨[], false, 0, 0, [], [], false, false⟩
set_option maxHeartbeats 1000000 in
theorem senderFresh_fn (s : DSender) (hw : wfSender s) : Fn Tryz.prog 58 [.agg (encSender s)] (.agg (encSender s)) := by
  have hl := hw.1
  have hl2 := hw.2.2.2.1
  have hl3 := hw.2.2.2.2.2.1
  refine fn_of_run (by kernel_rfl) Tryz.func58 rfl (by kernel_rfl) ?_
  (repeat' first | (refine s_app (r := s.Data.map encB) ?_ ?_ ?_ ?_ (h := ?_); (focus (first | with_reducible rfl | with_reducible exact List.nil_append _ | with_reducible exact (List.map_append ..).symm | (rw [take_snoc (by assumption), List.map_append]; rfl) | (rw [List.map_append]; rfl) | (simp; done))); (focus (first | exact len_none | exact len_one rfl | exact len_two rfl rfl | exact len_enc (fun _ => rfl))); (focus ((conv => lhs; rhs; whnf); simp only [List.length_map, List.length_append, List.length_cons, List.length_nil, List.length_take]; omega)); (focus (simp only [List.length_map, List.length_append, List.length_cons, List.length_nil, List.length_take]; omega))) | (refine s_app0R (r := s.Data.map encB) ?_ ?_ ?_ ?_ (h := ?_); (focus (first | with_reducible rfl | with_reducible exact List.nil_append _ | with_reducible exact (List.map_append ..).symm | (rw [take_snoc (by assumption), List.map_append]; rfl) | (rw [List.map_append]; rfl) | (simp; done))); (focus (first | exact len_none | exact len_one rfl | exact len_two rfl rfl | exact len_enc (fun _ => rfl))); (focus ((conv => lhs; rhs; whnf); simp only [List.length_map, List.length_append, List.length_cons, List.length_nil, List.length_take]; omega)); (focus (simp only [List.length_map, List.length_append, List.length_cons, List.length_nil, List.length_take]; omega))) | (refine p_app (r := s.Data.map encB) ?_ ?_ ?_ ?_ (h := ?_); (focus (first | with_reducible rfl | with_reducible exact List.nil_append _ | with_reducible exact (List.map_append ..).symm | (rw [take_snoc (by assumption), List.map_append]; rfl) | (rw [List.map_append]; rfl) | (simp; done))); (focus (first | exact len_none | exact len_one rfl | exact len_two rfl rfl | exact len_enc (fun _ => rfl))); (focus ((conv => lhs; rhs; whnf); simp only [List.length_map, List.length_append, List.length_cons, List.length_nil, List.length_take]; omega)); (focus (simp only [List.length_map, List.length_append, List.length_cons, List.length_nil, List.length_take]; omega))) | (refine p_app0R (r := s.Data.map encB) ?_ ?_ ?_ ?_ (h := ?_); (focus (first | with_reducible rfl | with_reducible exact List.nil_append _ | with_reducible exact (List.map_append ..).symm | (rw [take_snoc (by assumption), List.map_append]; rfl) | (rw [List.map_append]; rfl) | (simp; done))); (focus (first | exact len_none | exact len_one rfl | exact len_two rfl rfl | exact len_enc (fun _ => rfl))); (focus ((conv => lhs; rhs; whnf); simp only [List.length_map, List.length_append, List.length_cons, List.length_nil, List.length_take]; omega)); (focus (simp only [List.length_map, List.length_append, List.length_cons, List.length_nil, List.length_take]; omega))) | (refine s_app (r := s.Lost.map encRange) ?_ ?_ ?_ ?_ (h := ?_); (focus (first | with_reducible rfl | with_reducible exact List.nil_append _ | with_reducible exact (List.map_append ..).symm | (rw [take_snoc (by assumption), List.map_append]; rfl) | (rw [List.map_append]; rfl) | (simp; done))); (focus (first | exact len_none | exact len_one rfl | exact len_two rfl rfl | exact len_enc (fun _ => rfl))); (focus ((conv => lhs; rhs; whnf); simp only [List.length_map, List.length_append, List.length_cons, List.length_nil, List.length_take]; omega)); (focus (simp only [List.length_map, List.length_append, List.length_cons, List.length_nil, List.length_take]; omega))) | (refine s_app0R (r := s.Lost.map encRange) ?_ ?_ ?_ ?_ (h := ?_); (focus (first | with_reducible rfl | with_reducible exact List.nil_append _ | with_reducible exact (List.map_append ..).symm | (rw [take_snoc (by assumption), List.map_append]; rfl) | (rw [List.map_append]; rfl) | (simp; done))); (focus (first | exact len_none | exact len_one rfl | exact len_two rfl rfl | exact len_enc (fun _ => rfl))); (focus ((conv => lhs; rhs; whnf); simp only [List.length_map, List.length_append, List.length_cons, List.length_nil, List.length_take]; omega)); (focus (simp only [List.length_map, List.length_append, List.length_cons, List.length_nil, List.length_take]; omega))) | (refine p_app (r := s.Lost.map encRange) ?_ ?_ ?_ ?_ (h := ?_); (focus (first | with_reducible rfl | with_reducible exact List.nil_append _ | with_reducible exact (List.map_append ..).symm | (rw [take_snoc (by assumption), List.map_append]; rfl) | (rw [List.map_append]; rfl) | (simp; done))); (focus (first | exact len_none | exact len_one rfl | exact len_two rfl rfl | exact len_enc (fun _ => rfl))); (focus ((conv => lhs; rhs; whnf); simp only [List.length_map, List.length_append, List.length_cons, List.length_nil, List.length_take]; omega)); (focus (simp only [List.length_map, List.length_append, List.length_cons, List.length_nil, List.length_take]; omega))) | (refine p_app0R (r := s.Lost.map encRange) ?_ ?_ ?_ ?_ (h := ?_); (focus (first | with_reducible rfl | with_reducible exact List.nil_append _ | with_reducible exact (List.map_append ..).symm | (rw [take_snoc (by assumption), List.map_append]; rfl) | (rw [List.map_append]; rfl) | (simp; done))); (focus (first | exact len_none | exact len_one rfl | exact len_two rfl rfl | exact len_enc (fun _ => rfl))); (focus ((conv => lhs; rhs; whnf); simp only [List.length_map, List.length_append, List.length_cons, List.length_nil, List.length_take]; omega)); (focus (simp only [List.length_map, List.length_append, List.length_cons, List.length_nil, List.length_take]; omega))) | (refine s_app (r := s.Acked.map encRange) ?_ ?_ ?_ ?_ (h := ?_); (focus (first | with_reducible rfl | with_reducible exact List.nil_append _ | with_reducible exact (List.map_append ..).symm | (rw [take_snoc (by assumption), List.map_append]; rfl) | (rw [List.map_append]; rfl) | (simp; done))); (focus (first | exact len_none | exact len_one rfl | exact len_two rfl rfl | exact len_enc (fun _ => rfl))); (focus ((conv => lhs; rhs; whnf); simp only [List.length_map, List.length_append, List.length_cons, List.length_nil, List.length_take]; omega)); (focus (simp only [List.length_map, List.length_append, List.length_cons, List.length_nil, List.length_take]; omega))) | (refine s_app0R (r := s.Acked.map encRange) ?_ ?_ ?_ ?_ (h := ?_); (focus (first | with_reducible rfl | with_reducible exact List.nil_append _ | with_reducible exact (List.map_append ..).symm | (rw [take_snoc (by assumption), List.map_append]; rfl) | (rw [List.map_append]; rfl) | (simp; done))); (focus (first | exact len_none | exact len_one rfl | exact len_two rfl rfl | exact len_enc (fun _ => rfl))); (focus ((conv => lhs; rhs; whnf); simp only [List.length_map, List.length_append, List.length_cons, List.length_nil, List.length_take]; omega)); (focus (simp only [List.length_map, List.length_append, List.length_cons, List.length_nil, List.length_take]; omega))) | (refine p_app (r := s.Acked.map encRange) ?_ ?_ ?_ ?_ (h := ?_); (focus (first | with_reducible rfl | with_reducible exact List.nil_append _ | with_reducible exact (List.map_append ..).symm | (rw [take_snoc (by assumption), List.map_append]; rfl) | (rw [List.map_append]; rfl) | (simp; done))); (focus (first | exact len_none | exact len_one rfl | exact len_two rfl rfl | exact len_enc (fun _ => rfl))); (focus ((conv => lhs; rhs; whnf); simp only [List.length_map, List.length_append, List.length_cons, List.length_nil, List.length_take]; omega)); (focus (simp only [List.length_map, List.length_append, List.length_cons, List.length_nil, List.length_take]; omega))) | (refine p_app0R (r := s.Acked.map encRange) ?_ ?_ ?_ ?_ (h := ?_); (focus (first | with_reducible rfl | with_reducible exact List.nil_append _ | with_reducible exact (List.map_append ..).symm | (rw [take_snoc (by assumption), List.map_append]; rfl) | (rw [List.map_append]; rfl) | (simp; done))); (focus (first | exact len_none | exact len_one rfl | exact len_two rfl rfl | exact len_enc (fun _ => rfl))); (focus ((conv => lhs; rhs; whnf); simp only [List.length_map, List.length_append, List.length_cons, List.length_nil, List.length_take]; omega)); (focus (simp only [List.length_map, List.length_append, List.length_cons, List.length_nil, List.length_take]; omega))) | (refine go_ ?_; ((repeat' first | exact True.intro | refine Two.mk ?_ ?_); all_goals intros)) | fail "")
  all_goals first
    | (exact endwA_)
    | skip
end Go.Proofs.YtfdomanbdfekhaaGreat

/-
  The laws' sameSender, of a sender and itself.
-/
set_option linter.unusedVariables false
set_option linter.unusedSimpArgs false
set_option linter.unusedVariables false
namespace Go.Proofs.YtfdomanbdfekhaaGreat
set_option maxRecDepth 100000
attribute [local irreducible] Run RunL QStep GStep Fn Less PL FnM

set_option maxHeartbeats 2000000 in
theorem sameSender_refl (a : DSender) (ha : a.Lost.length * 16 ≤ 140737488351232) (hb : a.Acked.length * 16 ≤ 140737488351232) : Fn Tryz.prog 21 [.agg (encSender a), .agg (encSender a)] (.lit (.bool true)) := by
  have h1 := sameRanges_fn a.Lost a.Lost (by omega) (by omega)
  have h2 := sameRanges_fn a.Acked a.Acked (by omega) (by omega)
  have h3 := sameBytes_fn a.Data a.Data
  rw [yes_of rfl] at h1 h2 h3
  obtain ⟨data, f0, next, mx, lost, acked, en, ov⟩ := a
  dsimp only [encSender] at *
  cases f0 <;> cases en <;> cases ov
  all_goals refine fn_of_run (by kernel_rfl) Tryz.func21 rfl (by kernel_rfl) ?_
  all_goals (repeat' first | (refine s_call (h1) (h := ?_)) | (refine p_call (h1) (h := ?_)) | (refine s_call (h2) (h := ?_)) | (refine p_call (h2) (h := ?_)) | (refine s_call (h3) (h := ?_)) | (refine p_call (h3) (h := ?_)) | (refine go_ ?_; ((repeat' first | exact True.intro | refine Two.mk ?_ ?_); all_goals intros)) | fail "")
  all_goals first
    | exact ends_ (hr := rfl)
    | skip
end Go.Proofs.YtfdomanbdfekhaaGreat

/-
  sender.fresh: a copy of the call's own.
-/
set_option linter.unusedVariables false
set_option linter.unusedSimpArgs false
set_option linter.unusedVariables false
namespace Go.Proofs.YtfdomanbdfekhaaGreat
set_option maxRecDepth 100000
attribute [local irreducible] Run RunL QStep GStep Fn Less PL FnM

/-- P10.2 -/
noncomputable def wrR (s : DSender) (b : List UInt8) (fin : Bool) : DSender × Int :=
  if sndFlt s ≠ 0 then (sndZ, sndFlt s) else if s.Fin = true then (sndZ, 17) else if 600 < s.Data.length + b.length then (sndZ, 8) else ({ s with Data := s.Data ++ b, Fin := fin }, 0)
end Go.Proofs.YtfdomanbdfekhaaGreat

/-
  sender.Grant, and the reference's SenderWritten and SenderGranted: what they answer.
-/
set_option linter.unusedVariables false
set_option linter.unusedSimpArgs false
set_option linter.unusedVariables false
namespace Go.Proofs.YtfdomanbdfekhaaGreat
set_option maxRecDepth 100000
attribute [local irreducible] Run RunL QStep GStep Fn Less PL FnM

/-- P10.3 -/
noncomputable def grR (s : DSender) (n : Int) : DSender × Int :=
  if sndFlt s ≠ 0 then (sndZ, sndFlt s) else if 0 ≤ n ∧ n ≤ 4611686018427387903 then ({ s with Max := max s.Max n }, 0) else (sndZ, 6)
end Go.Proofs.YtfdomanbdfekhaaGreat
