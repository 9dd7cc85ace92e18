/-
  SEVERAL TEXTS IN ONE: each with its own comment.
-/
import Derived.Test.YtfdomanbdfekhaaGreatGA
import Derived.Test.YtfdomanbdfekhaaGreatGC
import Derived.Test.YtfdomanbdfekhaaGreatProg
/-
  Sets of numbers: ranges.Check and the reference's, one range out of a set, and the laws' sameRanges. No condition.
-/
set_option linter.unusedVariables false
set_option linter.unusedSimpArgs false
set_option linter.unusedVariables false
namespace Go.Proofs.YtfdomanbdfekhaaGreat
set_option maxRecDepth 100000
attribute [local irreducible] Run RunL QStep GStep Fn Less PL

def rGood (r : DRange) : Prop := 0 ≤ r.Lo ∧ r.Lo ≤ r.Hi ∧ r.Hi ≤ 4611686018427387903
instance (r : DRange) : Decidable (rGood r) := inferInstanceAs (Decidable (_ ∧ _))
/-- a set behind a number -/
def rSet : Int → List DRange → Prop
  | _, [] => True
  | a, r :: l => rGood r ∧ a + 2 ≤ r.Lo ∧ rSet r.Hi l
instance rSetDec : ∀ (a : Int) (l : List DRange), Decidable (rSet a l)
  | _, [] => inferInstanceAs (Decidable True)
  | a, r :: l => by
    have := rSetDec r.Hi l
    exact inferInstanceAs (Decidable (rGood r ∧ a + 2 ≤ r.Lo ∧ rSet r.Hi l))
def rFlt (l : List DRange) : Int := if rSet (-2) l then 0 else 3
def rgFlt (l : List DRange) (r : DRange) : Int := if rFlt l ≠ 0 then rFlt l else if rGood r then 0 else 6

theorem good_fn (r : DRange) : Fn Tryz.prog 73 [.agg (encRange r)] (.lit (.bool (decide (rGood r)))) := by
  refine fn_of_run (by kernel_rfl) Tryz.func73 rfl (by kernel_rfl) ?_
  (repeat' first | (refine go_ ?_; ((repeat' first | exact True.intro | refine Two.mk ?_ ?_); all_goals intros)) | fail "")
  all_goals (refine ends_ (hr := ?_))
  all_goals first
    | rw [decide_eq_true (by unfold rGood; omega)]
    | rw [decide_eq_false (by unfold rGood; omega)]
theorem isRange_fn (r : DRange) : Fn Tryz.prog 67 [.agg (encRange r)] (.lit (.bool (decide (rGood r)))) := by
  refine fn_of_run (by kernel_rfl) Tryz.func67 rfl (by kernel_rfl) ?_
  (repeat' first | (refine s_dec (upTo_fn _ _) (ht := ?_) (hff := ?_) <;> intro _ <;> try (exfalso; omega)) | (refine p_dec (upTo_fn _ _) (ht := ?_) (hff := ?_) <;> intro _ <;> try (exfalso; omega)) | (refine go_ ?_; ((repeat' first | exact True.intro | refine Two.mk ?_ ?_); all_goals intros)) | fail "")
  all_goals (refine ends_ (hr := ?_))
  all_goals first
    | rw [decide_eq_true (by unfold rGood; omega)]
    | rw [decide_eq_false (by unfold rGood; omega)]
def lastHi (l : List DRange) (k : Nat) : Int := if k = 0 then -2 else (l.getD (k - 1) default).Hi
theorem rSet_drop {l : List DRange} {k : Nat} {a : Int} (h : k < l.length) : rSet a (l.drop k) ↔ rGood (l.getD k default) ∧ a + 2 ≤ (l.getD k default).Lo ∧ rSet (lastHi l (k + 1)) (l.drop (k + 1)) := by
  rw [drop_cons h]; unfold lastHi; rw [if_neg (by omega), Nat.add_sub_cancel]; rfl
theorem rangesCheck_fn (l : List DRange) (hw : ∀ y, y ∈ l → wfRange y) (hl : l.length * 16 ≤ 140737488355312) : Fn Tryz.prog 50 [.ro (l.map encRange)] (.lit (.int .i64 (rFlt l))) := by
  refine fn_of_run (by kernel_rfl) Tryz.func50 rfl (by kernel_rfl) ?_
  (repeat' first | (refine go_ ?_; ((repeat' first | exact True.intro | refine Two.mk ?_ ?_); all_goals intros)) | fail "")
  refine r_for (fun k : Nat => ⟨[(0, .ro (l.map encRange)), (5, .ro (l.map encRange)), (6, .lit (.int .i64 l.length)), (7, .lit (.int .i64 k))], [], 0, Tryz.f50.ntmps⟩)
    (fun k => k ≤ l.length ∧ (rSet (-2) l ↔ rSet (lastHi l k) (l.drop k)) ∧ -2 ≤ lastHi l k ∧ lastHi l k ≤ 4611686018427387903) (fun k => l.length - k) 0 ⟨Nat.zero_le _, by simp [lastHi], by simp [lastHi], by simp [lastHi]⟩ less_to ?_
  rintro k ⟨hk, hi, hb1, hb2⟩
  by_cases hkn : k < l.length
  · have hd := rSet_drop (a := lastHi l k) hkn
    have hwk := hw _ (getD_mem hkn)
    unfold wfRange I64 at hwk
    have hlast : lastHi l (k + 1) = (l.getD k default).Hi := by unfold lastHi; rw [if_neg (by omega), Nat.add_sub_cancel]
    by_cases hk0 : k = 0
    · have hz : lastHi l k = -2 := by unfold lastHi; rw [if_pos hk0]
      (repeat' first | (refine s_dec (good_fn _) (ht := ?_) (hff := ?_) <;> intro _ <;> try (exfalso; omega)) | (refine p_dec (good_fn _) (ht := ?_) (hff := ?_) <;> intro _ <;> try (exfalso; omega)) | (refine go_ ?_; ((repeat' first | exact True.intro | refine Two.mk ?_ ?_); all_goals intros)) | fail "")
      all_goals first
        | (refine ends_ (hr := ?_); unfold rFlt; rw [if_neg (fun h => ?_)]; have := hd.1 (hi.1 h); unfold rGood at *; omega)
        | (refine ⟨k + 1, ?_, ?_, ?_⟩; rotate_left 2; (exact lessA_); (focus (omega)); (focus (have hg : rGood (l.getD k default) := (by assumption); unfold rGood at hg; refine ⟨hkn, ⟨fun h => (hd.1 (hi.1 h)).2.2, fun h => hi.2 (hd.2 ⟨by assumption, ?_, h⟩)⟩, ?_, ?_⟩ <;> omega)))
    · have hz : lastHi l k = (l.getD (k - 1) default).Hi := by unfold lastHi; rw [if_neg hk0]
      rw [hz] at hd hb1 hb2
      (repeat' first | (refine s_dec (good_fn _) (ht := ?_) (hff := ?_) <;> intro _ <;> try (exfalso; omega)) | (refine p_dec (good_fn _) (ht := ?_) (hff := ?_) <;> intro _ <;> try (exfalso; omega)) | (refine go_ ?_; ((repeat' first | exact True.intro | refine Two.mk ?_ ?_); all_goals intros)) | fail "")
      all_goals first
        | (refine ends_ (hr := ?_); unfold rFlt; rw [if_neg (fun h => ?_)]; rw [hz] at hi; have := hd.1 (hi.1 h); unfold rGood at *; omega)
        | (refine ⟨k + 1, ?_, ?_, ?_⟩; rotate_left 2; (exact lessA_); (focus (omega)); (focus (have hg : rGood (l.getD k default) := (by assumption); unfold rGood at hg; rw [hz] at hi; refine ⟨hkn, ⟨fun h => (hd.1 (hi.1 h)).2.2, fun h => hi.2 (hd.2 ⟨by assumption, ?_, h⟩)⟩, ?_, ?_⟩ <;> omega)))
  · (repeat' first | (refine go_ ?_; ((repeat' first | exact True.intro | refine Two.mk ?_ ?_); all_goals intros)) | fail "")
    all_goals (refine ends_ (hr := ?_); unfold rFlt; rw [if_pos (hi.2 (by rw [List.drop_eq_nil_of_le (by omega)]; trivial))])
set_option maxHeartbeats 2000000 in
theorem sameRanges_fn (l m : List DRange) (hl : l.length * 16 ≤ 140737488355328) (hm : m.length * 16 ≤ 140737488355328) : Fn Tryz.prog 47 [.ro (l.map encRange), .ro (m.map encRange)] (.lit (.bool (yes (l = m)))) := by
  by_cases hlen : l.length = m.length
  · refine fn_of_run (by kernel_rfl) Tryz.func47 rfl (by kernel_rfl) ?_
    (repeat' first | (refine go_ ?_; ((repeat' first | exact True.intro | refine Two.mk ?_ ?_); all_goals intros)) | fail "")
    refine r_for (fun x : Nat × Bool => ⟨[(0, .ro (l.map encRange)), (1, .ro (m.map encRange)), (5, .lit (.bool x.2)), (6, .lit (.int .i64 x.1))], [], 0, Tryz.f47.ntmps⟩)
      (fun x => Along l m (l = m) x.1 x.2) (fun x => l.length - x.1) (0, true) ⟨Nat.zero_le _, fun _ => ⟨hlen, rfl⟩, fun h => by cases h⟩ less_to ?_
    rintro ⟨k, ok⟩ ⟨hk, hs, hn⟩
    dsimp only at hk hs hn ⊢
    cases ok
    · (repeat' first | (refine go_ ?_; ((repeat' first | exact True.intro | refine Two.mk ?_ ?_); all_goals intros)) | fail "")
      all_goals (refine ends_ (hr := ?_); exact noV (hn rfl))
    · obtain ⟨_, ht⟩ := hs rfl
      by_cases hkn : k < l.length
      · skip
        (repeat' first | (refine go_ ?_; ((repeat' first | exact True.intro | refine Two.mk ?_ ?_); all_goals intros)) | fail "")
        all_goals first
          | (refine ⟨(k + 1, true), ?_, ?_, ?_⟩; rotate_left 2; (exact lessA_); (focus (dsimp only; omega)); (focus (exact ⟨hkn, fun _ => ⟨hlen, take_same hkn (by omega) ht (by have h := ‹_ ∧ _›; exact ext_Range h.1 h.2.1)⟩, fun h => by cases h⟩)))
          | (refine ⟨(k + 1, false), ?_, ?_, ?_⟩; rotate_left 2; (exact lessA_); (focus (dsimp only; omega)); (focus (exact ⟨hkn, fun h => (by cases h), fun _ => ne_getD (k := k) (by intro e; simp_all)⟩)))
      · (repeat' first | (refine go_ ?_; ((repeat' first | exact True.intro | refine Two.mk ?_ ?_); all_goals intros)) | fail "")
        all_goals (refine ends_ (hr := ?_); exact yesV (take_all (by omega) (by omega) ht))
  · refine fn_of_run (by kernel_rfl) Tryz.func47 rfl (by kernel_rfl) ?_
    (repeat' first | (refine go_ ?_; ((repeat' first | exact True.intro | refine Two.mk ?_ ?_); all_goals intros)) | fail "")
    refine r_for (fun _ : Unit => ⟨[(5, .lit (.bool false))], [], 0, Tryz.f47.ntmps⟩) (fun _ => True) (fun _ => 0) () trivial less_to ?_
    intro _ _
    (repeat' first | (refine go_ ?_; ((repeat' first | exact True.intro | refine Two.mk ?_ ?_); all_goals intros)) | fail "")
    all_goals (refine ends_ (hr := ?_); exact noV (fun e => hlen (by rw [e])))

end Go.Proofs.YtfdomanbdfekhaaGreat

/-
  ranges.Cut and ranges.Holes, and the reference's: what each answers. No condition.
-/
set_option linter.unusedVariables false
set_option linter.unusedSimpArgs false
set_option linter.unusedVariables false
namespace Go.Proofs.YtfdomanbdfekhaaGreat
set_option maxRecDepth 100000
attribute [local irreducible] Run RunL QStep GStep Fn Less PL

theorem rangesFaultR_fn (l : List DRange) (r : DRange) (hw : ∀ y, y ∈ l → wfRange y) (hl : l.length * 16 ≤ 140737488355312) : Fn Tryz.prog 75 [.ro (l.map encRange), .agg (encRange r)] (.lit (.int .i64 (rgFlt l r))) := by
  have h1 := rangesCheck_fn l hw hl
  unfold rgFlt
  generalize rFlt l = e at *
  refine fn_of_run (by kernel_rfl) Tryz.func75 rfl (by kernel_rfl) ?_
  (repeat' first | (refine s_call (h1) (h := ?_)) | (refine p_call (h1) (h := ?_)) | (refine s_dec (good_fn _) (ht := ?_) (hff := ?_) <;> intro _ <;> try (exfalso; omega)) | (refine p_dec (good_fn _) (ht := ?_) (hff := ?_) <;> intro _ <;> try (exfalso; omega)) | (refine go_ ?_; ((repeat' first | exact True.intro | refine Two.mk ?_ ?_); all_goals intros)) | fail "")
  all_goals (refine ends_ (hr := ?_))
  all_goals first
    | rw [if_pos (by assumption)]
    | rw [if_neg (by assumption), if_pos (by assumption)]
    | rw [if_neg (by assumption), if_neg (by assumption)]
/-- what a range leaves of another -/
def cut1 (r x : DRange) : List DRange := (if x.Lo < r.Lo then [⟨x.Lo, min x.Hi (r.Lo - 1)⟩] else []) ++ (if r.Hi < x.Hi then [⟨max x.Lo (r.Hi + 1), x.Hi⟩] else [])
def rCut (l : List DRange) (r : DRange) : List DRange := l.flatMap (cut1 r)
theorem rCut_nil (r : DRange) : rCut [] r = [] := rfl
theorem rCut_cons (x r : DRange) (l : List DRange) : rCut (x :: l) r = cut1 r x ++ rCut l r := rfl
theorem rCut_app (l m : List DRange) (r : DRange) : rCut (l ++ m) r = rCut l r ++ rCut m r := by unfold rCut; rw [List.flatMap_append]
theorem rCut_one (x r : DRange) : rCut [x] r = cut1 r x := by rw [rCut_cons, rCut_nil, List.append_nil]
theorem rSet_weak : ∀ {l : List DRange} {a b : Int}, rSet a l → b ≤ a → rSet b l
  | [], _, _, _, _ => trivial
  | r :: l, a, b, h, hb => ⟨h.1, by have := h.2.1; omega, h.2.2⟩
theorem rSet_good : ∀ {l : List DRange} {a : Int}, rSet a l → ∀ x ∈ l, rGood x ∧ a + 2 ≤ x.Lo
  | r :: l, a, h, x, hx => by
    rcases List.mem_cons.1 hx with rfl | hx
    · exact ⟨h.1, h.2.1⟩
    · have := rSet_good h.2.2 x hx
      have h1 := h.1
      have h2 := h.2.1
      unfold rGood at h1
      exact ⟨this.1, by omega⟩
theorem rSet_take : ∀ {l : List DRange} {a : Int} (k : Nat), rSet a l → rSet a (l.take k)
  | [], _, k, h => by simp [rSet]
  | r :: l, a, 0, h => trivial
  | r :: l, a, k + 1, h => ⟨h.1, h.2.1, rSet_take k h.2.2⟩
/-- what is cut out of what lies behind it grows by nothing -/
theorem rCut_len0 {r : DRange} (hr : rGood r) : ∀ {l : List DRange} {a : Int}, rSet a l → r.Hi ≤ a + 1 → (rCut l r).length ≤ l.length
  | [], _, _, _ => by simp [rCut]
  | x :: l, a, h, ha => by
    have h1 := h.1
    have h2 := h.2.1
    have := rCut_len0 hr (a := x.Hi) h.2.2 (by unfold rGood at h1; omega)
    rw [rCut_cons, List.length_append, List.length_cons]
    unfold cut1
    unfold rGood at hr
    rw [if_neg (by omega)]
    split <;> simp <;> omega
theorem rCut_len {r : DRange} (hr : rGood r) : ∀ {l : List DRange} {a : Int}, rSet a l → (rCut l r).length ≤ l.length + 1
  | [], _, _ => by simp [rCut]
  | x :: l, a, h => by
    have h1 := h.1
    have h3 := rCut_len hr (a := x.Hi) h.2.2
    rw [rCut_cons, List.length_append, List.length_cons]
    unfold cut1
    by_cases hc : r.Hi < x.Hi
    · have := rCut_len0 hr (a := x.Hi) h.2.2 (by omega)
      rw [if_pos hc]
      split <;> simp <;> omega
    · rw [if_neg hc]
      split <;> simp <;> omega
/-- what is left is a set -/
theorem rCut_set {r : DRange} (hr : rGood r) : ∀ {l : List DRange} {a : Int}, rSet a l → rSet a (rCut l r)
  | [], _, _ => trivial
  | x :: l, a, h => by
    have h1 := h.1
    have h2 := h.2.1
    have h3 := rCut_set hr (a := x.Hi) h.2.2
    rw [rCut_cons]
    unfold cut1
    unfold rGood at hr h1
    by_cases c1 : x.Lo < r.Lo
    · by_cases c2 : r.Hi < x.Hi
      · rw [if_pos c1, if_pos c2]
        exact ⟨by unfold rGood; dsimp only; omega, by dsimp only; omega, by unfold rGood; dsimp only; omega, by dsimp only; omega, h3⟩
      · rw [if_pos c1, if_neg c2]
        exact ⟨by unfold rGood; dsimp only; omega, by dsimp only; omega, rSet_weak h3 (by dsimp only; omega)⟩
    · by_cases c2 : r.Hi < x.Hi
      · rw [if_neg c1, if_pos c2]
        exact ⟨by unfold rGood; dsimp only; omega, by dsimp only; omega, h3⟩
      · rw [if_neg c1, if_neg c2]
        exact rSet_weak h3 (by omega)
theorem rFlt_set {l : List DRange} (h : rFlt l = 0) : rSet (-2) l := by
  unfold rFlt at h
  split at h
  · assumption
  · cases h
theorem rgFlt_ok {l : List DRange} {r : DRange} (h : rgFlt l r = 0) : rSet (-2) l ∧ rGood r := by
  unfold rgFlt at h
  split at h
  · omega
  · split at h
    · exact ⟨rFlt_set (by omega), by assumption⟩
    · cases h
/-- P3.3 -/
def rCutR (l : List DRange) (r : DRange) : List DRange × Int := if rgFlt l r ≠ 0 then ([], rgFlt l r) else (rCut l r, 0)
theorem take_flat {l : List DRange} {k : Nat} (h : k < l.length) (r : DRange) : rCut (l.take (k + 1)) r = rCut (l.take k) r ++ cut1 r (l.getD k default) := by
  rw [take_snoc h, rCut_app, rCut_one]
theorem cut_fn (l : List DRange) (r : DRange) (hw : ∀ y, y ∈ l → wfRange y) (hl : l.length * 16 ≤ 140737488355312) : Fn Tryz.prog 76 [.ro (l.map encRange), .agg (encRange r)] (.tup [.ro ((rCutR l r).1.map encRange), .lit (.int .i64 (rCutR l r).2)]) := by
  have h1 := rangesFaultR_fn l r hw hl
  unfold rCutR
  by_cases h0 : rgFlt l r = 0
  · obtain ⟨hs, hr⟩ := rgFlt_ok h0
    rw [h0] at h1 ⊢
    rw [if_neg (by omega)]
    unfold rGood at hr
    refine fn_of_run (by kernel_rfl) Tryz.func76 rfl (by kernel_rfl) ?_
    (repeat' first | (refine s_call (h1) (h := ?_)) | (refine p_call (h1) (h := ?_)) | (refine go_ ?_; ((repeat' first | exact True.intro | refine Two.mk ?_ ?_); all_goals intros)) | fail "")
    refine r_for (fun k : Nat => ⟨[(3, .ptr 0 0 0 0), (16, .ro (l.map encRange)), (17, .lit (.int .i64 l.length)), (18, .lit (.int .i64 k)), (7, .own 1)], [(0, some (.box 99 (encRange r))), (1, some (.row 99 2 ((rCut (l.take k) r).map encRange)))], 2, Tryz.f76.ntmps⟩)
      (fun k => k ≤ l.length) (fun k => l.length - k) 0 (Nat.zero_le _) ((less_own (n := 1) (t := 7) 99 2 rfl rfl rfl).trans less_to) ?_
    intro k hk
    by_cases hkn : k < l.length
    · obtain ⟨hx, hx2⟩ := rSet_good hs _ (getD_mem hkn)
      have htk := take_flat hkn r
      have hlen := rCut_len (r := r) hr (rSet_take (k + 1) hs)
      have hlt : (l.take (k + 1)).length ≤ l.length := by rw [List.length_take]; omega
      rw [htk] at hlen
      unfold cut1 at htk hlen
      unfold rGood at hx
      by_cases c1 : (l.getD k default).Lo < r.Lo
      · by_cases c2 : r.Hi < (l.getD k default).Hi
        · rw [if_pos c1, if_pos c2] at htk hlen
          simp only [List.length_append, List.length_cons, List.length_nil] at hlen
          (repeat' first | (refine s_app (r := (rCut (l.take k) r ++ [DRange.mk (l.getD k default).Lo (min (l.getD k default).Hi (r.Lo - 1))]).map encRange) ?_ ?_ ?_ ?_ (h := ?_); (focus (first | with_reducible rfl | with_reducible exact List.nil_append _ | with_reducible exact (List.map_append ..).symm | (rw [take_snoc (by assumption), List.map_append]; rfl) | (rw [List.map_append]; rfl) | (simp; done))); (focus (first | exact len_none | exact len_one rfl | exact len_two rfl rfl | exact len_enc (fun _ => rfl))); (focus ((conv => lhs; rhs; whnf); simp only [List.length_map, List.length_append, List.length_cons, List.length_nil, List.length_take]; omega)); (focus (simp only [List.length_map, List.length_append, List.length_cons, List.length_nil, List.length_take]; omega))) | (refine s_app0R (r := (rCut (l.take k) r ++ [DRange.mk (l.getD k default).Lo (min (l.getD k default).Hi (r.Lo - 1))]).map encRange) ?_ ?_ ?_ ?_ (h := ?_); (focus (first | with_reducible rfl | with_reducible exact List.nil_append _ | with_reducible exact (List.map_append ..).symm | (rw [take_snoc (by assumption), List.map_append]; rfl) | (rw [List.map_append]; rfl) | (simp; done))); (focus (first | exact len_none | exact len_one rfl | exact len_two rfl rfl | exact len_enc (fun _ => rfl))); (focus ((conv => lhs; rhs; whnf); simp only [List.length_map, List.length_append, List.length_cons, List.length_nil, List.length_take]; omega)); (focus (simp only [List.length_map, List.length_append, List.length_cons, List.length_nil, List.length_take]; omega))) | (refine p_app (r := (rCut (l.take k) r ++ [DRange.mk (l.getD k default).Lo (min (l.getD k default).Hi (r.Lo - 1))]).map encRange) ?_ ?_ ?_ ?_ (h := ?_); (focus (first | with_reducible rfl | with_reducible exact List.nil_append _ | with_reducible exact (List.map_append ..).symm | (rw [take_snoc (by assumption), List.map_append]; rfl) | (rw [List.map_append]; rfl) | (simp; done))); (focus (first | exact len_none | exact len_one rfl | exact len_two rfl rfl | exact len_enc (fun _ => rfl))); (focus ((conv => lhs; rhs; whnf); simp only [List.length_map, List.length_append, List.length_cons, List.length_nil, List.length_take]; omega)); (focus (simp only [List.length_map, List.length_append, List.length_cons, List.length_nil, List.length_take]; omega))) | (refine p_app0R (r := (rCut (l.take k) r ++ [DRange.mk (l.getD k default).Lo (min (l.getD k default).Hi (r.Lo - 1))]).map encRange) ?_ ?_ ?_ ?_ (h := ?_); (focus (first | with_reducible rfl | with_reducible exact List.nil_append _ | with_reducible exact (List.map_append ..).symm | (rw [take_snoc (by assumption), List.map_append]; rfl) | (rw [List.map_append]; rfl) | (simp; done))); (focus (first | exact len_none | exact len_one rfl | exact len_two rfl rfl | exact len_enc (fun _ => rfl))); (focus ((conv => lhs; rhs; whnf); simp only [List.length_map, List.length_append, List.length_cons, List.length_nil, List.length_take]; omega)); (focus (simp only [List.length_map, List.length_append, List.length_cons, List.length_nil, List.length_take]; omega))) | (refine s_app (r := (rCut (l.take (k + 1)) r).map encRange) ?_ ?_ ?_ ?_ (h := ?_); (focus (first | (rw [htk]; simp only [List.map_append, List.append_assoc]; rfl) | with_reducible rfl | with_reducible exact List.nil_append _ | with_reducible exact (List.map_append ..).symm | (rw [take_snoc (by assumption), List.map_append]; rfl) | (rw [List.map_append]; rfl) | (simp; done))); (focus (first | exact len_none | exact len_one rfl | exact len_two rfl rfl | exact len_enc (fun _ => rfl))); (focus ((conv => lhs; rhs; whnf); simp only [List.length_map, List.length_append, List.length_cons, List.length_nil, List.length_take]; omega)); (focus (simp only [List.length_map, List.length_append, List.length_cons, List.length_nil, List.length_take]; omega))) | (refine s_app0R (r := (rCut (l.take (k + 1)) r).map encRange) ?_ ?_ ?_ ?_ (h := ?_); (focus (first | (rw [htk]; simp only [List.map_append, List.append_assoc]; rfl) | with_reducible rfl | with_reducible exact List.nil_append _ | with_reducible exact (List.map_append ..).symm | (rw [take_snoc (by assumption), List.map_append]; rfl) | (rw [List.map_append]; rfl) | (simp; done))); (focus (first | exact len_none | exact len_one rfl | exact len_two rfl rfl | exact len_enc (fun _ => rfl))); (focus ((conv => lhs; rhs; whnf); simp only [List.length_map, List.length_append, List.length_cons, List.length_nil, List.length_take]; omega)); (focus (simp only [List.length_map, List.length_append, List.length_cons, List.length_nil, List.length_take]; omega))) | (refine p_app (r := (rCut (l.take (k + 1)) r).map encRange) ?_ ?_ ?_ ?_ (h := ?_); (focus (first | (rw [htk]; simp only [List.map_append, List.append_assoc]; rfl) | with_reducible rfl | with_reducible exact List.nil_append _ | with_reducible exact (List.map_append ..).symm | (rw [take_snoc (by assumption), List.map_append]; rfl) | (rw [List.map_append]; rfl) | (simp; done))); (focus (first | exact len_none | exact len_one rfl | exact len_two rfl rfl | exact len_enc (fun _ => rfl))); (focus ((conv => lhs; rhs; whnf); simp only [List.length_map, List.length_append, List.length_cons, List.length_nil, List.length_take]; omega)); (focus (simp only [List.length_map, List.length_append, List.length_cons, List.length_nil, List.length_take]; omega))) | (refine p_app0R (r := (rCut (l.take (k + 1)) r).map encRange) ?_ ?_ ?_ ?_ (h := ?_); (focus (first | (rw [htk]; simp only [List.map_append, List.append_assoc]; rfl) | with_reducible rfl | with_reducible exact List.nil_append _ | with_reducible exact (List.map_append ..).symm | (rw [take_snoc (by assumption), List.map_append]; rfl) | (rw [List.map_append]; rfl) | (simp; done))); (focus (first | exact len_none | exact len_one rfl | exact len_two rfl rfl | exact len_enc (fun _ => rfl))); (focus ((conv => lhs; rhs; whnf); simp only [List.length_map, List.length_append, List.length_cons, List.length_nil, List.length_take]; omega)); (focus (simp only [List.length_map, List.length_append, List.length_cons, List.length_nil, List.length_take]; omega))) | (refine go_ ?_; ((repeat' first | exact True.intro | refine Two.mk ?_ ?_); all_goals intros)) | fail "")
          all_goals (refine ⟨k + 1, ?_, ?_, ?_⟩; rotate_left 2; (exact lessA_); (focus (omega)); (focus (exact hkn)))
        · rw [if_pos c1, if_neg c2] at htk hlen
          simp only [List.length_append, List.length_cons, List.length_nil] at hlen
          (repeat' first | (refine s_app (r := (rCut (l.take (k + 1)) r).map encRange) ?_ ?_ ?_ ?_ (h := ?_); (focus (first | (rw [htk]; simp only [List.map_append, List.append_assoc]; rfl) | with_reducible rfl | with_reducible exact List.nil_append _ | with_reducible exact (List.map_append ..).symm | (rw [take_snoc (by assumption), List.map_append]; rfl) | (rw [List.map_append]; rfl) | (simp; done))); (focus (first | exact len_none | exact len_one rfl | exact len_two rfl rfl | exact len_enc (fun _ => rfl))); (focus ((conv => lhs; rhs; whnf); simp only [List.length_map, List.length_append, List.length_cons, List.length_nil, List.length_take]; omega)); (focus (simp only [List.length_map, List.length_append, List.length_cons, List.length_nil, List.length_take]; omega))) | (refine s_app0R (r := (rCut (l.take (k + 1)) r).map encRange) ?_ ?_ ?_ ?_ (h := ?_); (focus (first | (rw [htk]; simp only [List.map_append, List.append_assoc]; rfl) | with_reducible rfl | with_reducible exact List.nil_append _ | with_reducible exact (List.map_append ..).symm | (rw [take_snoc (by assumption), List.map_append]; rfl) | (rw [List.map_append]; rfl) | (simp; done))); (focus (first | exact len_none | exact len_one rfl | exact len_two rfl rfl | exact len_enc (fun _ => rfl))); (focus ((conv => lhs; rhs; whnf); simp only [List.length_map, List.length_append, List.length_cons, List.length_nil, List.length_take]; omega)); (focus (simp only [List.length_map, List.length_append, List.length_cons, List.length_nil, List.length_take]; omega))) | (refine p_app (r := (rCut (l.take (k + 1)) r).map encRange) ?_ ?_ ?_ ?_ (h := ?_); (focus (first | (rw [htk]; simp only [List.map_append, List.append_assoc]; rfl) | with_reducible rfl | with_reducible exact List.nil_append _ | with_reducible exact (List.map_append ..).symm | (rw [take_snoc (by assumption), List.map_append]; rfl) | (rw [List.map_append]; rfl) | (simp; done))); (focus (first | exact len_none | exact len_one rfl | exact len_two rfl rfl | exact len_enc (fun _ => rfl))); (focus ((conv => lhs; rhs; whnf); simp only [List.length_map, List.length_append, List.length_cons, List.length_nil, List.length_take]; omega)); (focus (simp only [List.length_map, List.length_append, List.length_cons, List.length_nil, List.length_take]; omega))) | (refine p_app0R (r := (rCut (l.take (k + 1)) r).map encRange) ?_ ?_ ?_ ?_ (h := ?_); (focus (first | (rw [htk]; simp only [List.map_append, List.append_assoc]; rfl) | with_reducible rfl | with_reducible exact List.nil_append _ | with_reducible exact (List.map_append ..).symm | (rw [take_snoc (by assumption), List.map_append]; rfl) | (rw [List.map_append]; rfl) | (simp; done))); (focus (first | exact len_none | exact len_one rfl | exact len_two rfl rfl | exact len_enc (fun _ => rfl))); (focus ((conv => lhs; rhs; whnf); simp only [List.length_map, List.length_append, List.length_cons, List.length_nil, List.length_take]; omega)); (focus (simp only [List.length_map, List.length_append, List.length_cons, List.length_nil, List.length_take]; omega))) | (refine go_ ?_; ((repeat' first | exact True.intro | refine Two.mk ?_ ?_); all_goals intros)) | fail "")
          all_goals (refine ⟨k + 1, ?_, ?_, ?_⟩; rotate_left 2; (exact lessA_); (focus (omega)); (focus (exact hkn)))
      · by_cases c2 : r.Hi < (l.getD k default).Hi
        · rw [if_neg c1, if_pos c2] at htk hlen
          simp only [List.length_append, List.length_cons, List.length_nil] at hlen
          (repeat' first | (refine s_app (r := (rCut (l.take (k + 1)) r).map encRange) ?_ ?_ ?_ ?_ (h := ?_); (focus (first | (rw [htk]; simp only [List.map_append, List.append_assoc]; rfl) | with_reducible rfl | with_reducible exact List.nil_append _ | with_reducible exact (List.map_append ..).symm | (rw [take_snoc (by assumption), List.map_append]; rfl) | (rw [List.map_append]; rfl) | (simp; done))); (focus (first | exact len_none | exact len_one rfl | exact len_two rfl rfl | exact len_enc (fun _ => rfl))); (focus ((conv => lhs; rhs; whnf); simp only [List.length_map, List.length_append, List.length_cons, List.length_nil, List.length_take]; omega)); (focus (simp only [List.length_map, List.length_append, List.length_cons, List.length_nil, List.length_take]; omega))) | (refine s_app0R (r := (rCut (l.take (k + 1)) r).map encRange) ?_ ?_ ?_ ?_ (h := ?_); (focus (first | (rw [htk]; simp only [List.map_append, List.append_assoc]; rfl) | with_reducible rfl | with_reducible exact List.nil_append _ | with_reducible exact (List.map_append ..).symm | (rw [take_snoc (by assumption), List.map_append]; rfl) | (rw [List.map_append]; rfl) | (simp; done))); (focus (first | exact len_none | exact len_one rfl | exact len_two rfl rfl | exact len_enc (fun _ => rfl))); (focus ((conv => lhs; rhs; whnf); simp only [List.length_map, List.length_append, List.length_cons, List.length_nil, List.length_take]; omega)); (focus (simp only [List.length_map, List.length_append, List.length_cons, List.length_nil, List.length_take]; omega))) | (refine p_app (r := (rCut (l.take (k + 1)) r).map encRange) ?_ ?_ ?_ ?_ (h := ?_); (focus (first | (rw [htk]; simp only [List.map_append, List.append_assoc]; rfl) | with_reducible rfl | with_reducible exact List.nil_append _ | with_reducible exact (List.map_append ..).symm | (rw [take_snoc (by assumption), List.map_append]; rfl) | (rw [List.map_append]; rfl) | (simp; done))); (focus (first | exact len_none | exact len_one rfl | exact len_two rfl rfl | exact len_enc (fun _ => rfl))); (focus ((conv => lhs; rhs; whnf); simp only [List.length_map, List.length_append, List.length_cons, List.length_nil, List.length_take]; omega)); (focus (simp only [List.length_map, List.length_append, List.length_cons, List.length_nil, List.length_take]; omega))) | (refine p_app0R (r := (rCut (l.take (k + 1)) r).map encRange) ?_ ?_ ?_ ?_ (h := ?_); (focus (first | (rw [htk]; simp only [List.map_append, List.append_assoc]; rfl) | with_reducible rfl | with_reducible exact List.nil_append _ | with_reducible exact (List.map_append ..).symm | (rw [take_snoc (by assumption), List.map_append]; rfl) | (rw [List.map_append]; rfl) | (simp; done))); (focus (first | exact len_none | exact len_one rfl | exact len_two rfl rfl | exact len_enc (fun _ => rfl))); (focus ((conv => lhs; rhs; whnf); simp only [List.length_map, List.length_append, List.length_cons, List.length_nil, List.length_take]; omega)); (focus (simp only [List.length_map, List.length_append, List.length_cons, List.length_nil, List.length_take]; omega))) | (refine go_ ?_; ((repeat' first | exact True.intro | refine Two.mk ?_ ?_); all_goals intros)) | fail "")
          all_goals (refine ⟨k + 1, ?_, ?_, ?_⟩; rotate_left 2; (exact lessA_); (focus (omega)); (focus (exact hkn)))
        · rw [if_neg c1, if_neg c2, List.append_nil, List.append_nil] at htk
          rw [← htk]
          (repeat' first | (refine go_ ?_; ((repeat' first | exact True.intro | refine Two.mk ?_ ?_); all_goals intros)) | fail "")
          all_goals (refine ⟨k + 1, ?_, ?_, ?_⟩; rotate_left 2; (exact lessA_); (focus (omega)); (focus (exact hkn)))
    · (repeat' first | (refine go_ ?_; ((repeat' first | exact True.intro | refine Two.mk ?_ ?_); all_goals intros)) | fail "")
      all_goals (refine ends_ (hr := ?_); rw [List.take_of_length_le (by omega)])
  · rw [if_pos h0]
    generalize rgFlt l r = e at *
    refine fn_of_run (by kernel_rfl) Tryz.func76 rfl (by kernel_rfl) ?_
    (repeat' first | (refine s_call (h1) (h := ?_)) | (refine p_call (h1) (h := ?_)) | (refine go_ ?_; ((repeat' first | exact True.intro | refine Two.mk ?_ ?_); all_goals intros)) | fail "")
    all_goals (exact endwA_)

/-- the reference's out, within the round of place k -/
def wSt (l : List DRange) (r : DRange) (k : Nat) : Nat → List DRange
  | 0 => rCut (l.take k) r
  | 1 => rCut (l.take k) r ++ (if (l.getD k default).Lo < r.Lo then [DRange.mk (l.getD k default).Lo (min (l.getD k default).Hi (r.Lo - 1))] else [])
  | _ => rCut (l.take (k + 1)) r
theorem wSt0 (l : List DRange) (r : DRange) (k : Nat) : wSt l r k 0 = rCut (l.take k) r := rfl
theorem wSt1 (l : List DRange) (r : DRange) (k : Nat) : wSt l r k 1 = rCut (l.take k) r ++ (if (l.getD k default).Lo < r.Lo then [DRange.mk (l.getD k default).Lo (min (l.getD k default).Hi (r.Lo - 1))] else []) := rfl
theorem wSt2 (l : List DRange) (r : DRange) (k : Nat) : wSt l r k 2 = rCut (l.take (k + 1)) r := rfl
theorem without_fn (l : List DRange) (r : DRange) (hs : rSet (-2) l) (hr : rGood r) (hl : l.length * 16 ≤ 140737488355312) : Fn Tryz.prog 78 [.ro (l.map encRange), .agg (encRange r)] (.ro ((rCut l r).map encRange)) := by
  unfold rGood at hr
  refine fn_of_run (by kernel_rfl) Tryz.func78 rfl (by kernel_rfl) ?_
  (repeat' first | (refine go_ ?_; ((repeat' first | exact True.intro | refine Two.mk ?_ ?_); all_goals intros)) | fail "")
  refine r_for (fun k : Nat => ⟨[(3, .ptr 0 0 0 0), (10, .ro (l.map encRange)), (11, .lit (.int .i64 l.length)), (12, .lit (.int .i64 k)), (5, .own 1)], [(0, some (.box 99 (encRange r))), (1, some (.row 99 2 ((rCut (l.take k) r).map encRange)))], 2, Tryz.f78.ntmps⟩)
    (fun k => k ≤ l.length) (fun k => l.length - k) 0 (Nat.zero_le _) ((less_own (n := 1) (t := 5) 99 2 rfl rfl rfl).trans less_to) ?_
  intro k hk
  by_cases hkn : k < l.length
  · obtain ⟨hx, hx2⟩ := rSet_good hs _ (getD_mem hkn)
    have htk := take_flat hkn r
    have hlen := rCut_len (r := r) hr (rSet_take (k + 1) hs)
    have hlt : (l.take (k + 1)).length ≤ l.length := by rw [List.length_take]; omega
    rw [htk] at hlen
    unfold cut1 at htk hlen
    unfold rGood at hx
    rw [List.length_append, List.length_append] at hlen
    (repeat' first | (refine go_ ?_; ((repeat' first | exact True.intro | refine Two.mk ?_ ?_); all_goals intros)) | fail "")
    refine r_for (fun j : Nat => ⟨[(3, .ptr 0 0 0 0), (10, .ro (l.map encRange)), (11, .lit (.int .i64 l.length)), (12, .lit (.int .i64 k)), (34, .ro [[.lit (.int .i64 (l.getD k default).Lo), .lit (.int .i64 (min (l.getD k default).Hi (r.Lo - 1)))], [.lit (.int .i64 (max (l.getD k default).Lo (r.Hi + 1))), .lit (.int .i64 (l.getD k default).Hi)]]), (35, .lit (.int .i64 2)), (36, .lit (.int .i64 j)), (5, .own 1)], [(0, some (.box 99 (encRange r))), (1, some (.row 99 2 ((wSt l r k j).map encRange)))], 2, Tryz.f78.ntmps⟩)
      (fun j => j ≤ 2) (fun j => 2 - j) 0 (by omega) less_to ?_
    intro j hj
    obtain rfl | rfl | rfl : j = 0 ∨ j = 1 ∨ j = 2 := by omega
    · have hb : (wSt l r k 0).length ≤ l.length := by
        have h2 := rCut_len (r := r) hr (rSet_take k hs)
        rw [wSt0]; rw [List.length_take] at h2; omega
      by_cases c1 : (l.getD k default).Lo < r.Lo
      · (repeat' first | (refine s_app (r := (wSt l r k 1).map encRange) ?_ ?_ ?_ ?_ (h := ?_); (focus (first | (rw [wSt0, wSt1, if_pos c1, List.map_append]; rfl) | with_reducible rfl | with_reducible exact List.nil_append _ | with_reducible exact (List.map_append ..).symm | (rw [take_snoc (by assumption), List.map_append]; rfl) | (rw [List.map_append]; rfl) | (simp; done))); (focus (first | exact len_none | exact len_one rfl | exact len_two rfl rfl | exact len_enc (fun _ => rfl))); (focus ((conv => lhs; rhs; whnf); simp only [List.length_map, List.length_append, List.length_cons, List.length_nil, List.length_take]; omega)); (focus (simp only [List.length_map, List.length_append, List.length_cons, List.length_nil, List.length_take]; omega))) | (refine s_app0R (r := (wSt l r k 1).map encRange) ?_ ?_ ?_ ?_ (h := ?_); (focus (first | (rw [wSt0, wSt1, if_pos c1, List.map_append]; rfl) | with_reducible rfl | with_reducible exact List.nil_append _ | with_reducible exact (List.map_append ..).symm | (rw [take_snoc (by assumption), List.map_append]; rfl) | (rw [List.map_append]; rfl) | (simp; done))); (focus (first | exact len_none | exact len_one rfl | exact len_two rfl rfl | exact len_enc (fun _ => rfl))); (focus ((conv => lhs; rhs; whnf); simp only [List.length_map, List.length_append, List.length_cons, List.length_nil, List.length_take]; omega)); (focus (simp only [List.length_map, List.length_append, List.length_cons, List.length_nil, List.length_take]; omega))) | (refine p_app (r := (wSt l r k 1).map encRange) ?_ ?_ ?_ ?_ (h := ?_); (focus (first | (rw [wSt0, wSt1, if_pos c1, List.map_append]; rfl) | with_reducible rfl | with_reducible exact List.nil_append _ | with_reducible exact (List.map_append ..).symm | (rw [take_snoc (by assumption), List.map_append]; rfl) | (rw [List.map_append]; rfl) | (simp; done))); (focus (first | exact len_none | exact len_one rfl | exact len_two rfl rfl | exact len_enc (fun _ => rfl))); (focus ((conv => lhs; rhs; whnf); simp only [List.length_map, List.length_append, List.length_cons, List.length_nil, List.length_take]; omega)); (focus (simp only [List.length_map, List.length_append, List.length_cons, List.length_nil, List.length_take]; omega))) | (refine p_app0R (r := (wSt l r k 1).map encRange) ?_ ?_ ?_ ?_ (h := ?_); (focus (first | (rw [wSt0, wSt1, if_pos c1, List.map_append]; rfl) | with_reducible rfl | with_reducible exact List.nil_append _ | with_reducible exact (List.map_append ..).symm | (rw [take_snoc (by assumption), List.map_append]; rfl) | (rw [List.map_append]; rfl) | (simp; done))); (focus (first | exact len_none | exact len_one rfl | exact len_two rfl rfl | exact len_enc (fun _ => rfl))); (focus ((conv => lhs; rhs; whnf); simp only [List.length_map, List.length_append, List.length_cons, List.length_nil, List.length_take]; omega)); (focus (simp only [List.length_map, List.length_append, List.length_cons, List.length_nil, List.length_take]; omega))) | (refine go_ ?_; ((repeat' first | exact True.intro | refine Two.mk ?_ ?_); all_goals intros)) | fail "")
        all_goals (refine ⟨1, ?_, ?_, ?_⟩; rotate_left 2; (exact lessA_); (focus (omega)); (focus (omega)))
      · have he : (wSt l r k 0).map encRange = (wSt l r k 1).map encRange := by rw [wSt0, wSt1, if_neg c1, List.append_nil]
        (repeat' first | (refine go_ ?_; ((repeat' first | exact True.intro | refine Two.mk ?_ ?_); all_goals intros)) | fail "")
        all_goals (refine ⟨1, ?_, ?_, ?_⟩; rotate_left 2; (exact lessA_); (focus (omega)); (focus (omega)))
    · by_cases c2 : r.Hi < (l.getD k default).Hi
      · have hb : (wSt l r k 1).length ≤ l.length := by rw [wSt1, List.length_append]; rw [if_pos c2] at hlen; simp only [List.length_cons, List.length_nil] at hlen; omega
        (repeat' first | (refine s_app (r := (wSt l r k 2).map encRange) ?_ ?_ ?_ ?_ (h := ?_); (focus (first | (rw [wSt1, wSt2, htk, if_pos c2, ← List.append_assoc, List.map_append (l₂ := [_])]; rfl) | with_reducible rfl | with_reducible exact List.nil_append _ | with_reducible exact (List.map_append ..).symm | (rw [take_snoc (by assumption), List.map_append]; rfl) | (rw [List.map_append]; rfl) | (simp; done))); (focus (first | exact len_none | exact len_one rfl | exact len_two rfl rfl | exact len_enc (fun _ => rfl))); (focus ((conv => lhs; rhs; whnf); simp only [List.length_map, List.length_append, List.length_cons, List.length_nil, List.length_take]; omega)); (focus (simp only [List.length_map, List.length_append, List.length_cons, List.length_nil, List.length_take]; omega))) | (refine s_app0R (r := (wSt l r k 2).map encRange) ?_ ?_ ?_ ?_ (h := ?_); (focus (first | (rw [wSt1, wSt2, htk, if_pos c2, ← List.append_assoc, List.map_append (l₂ := [_])]; rfl) | with_reducible rfl | with_reducible exact List.nil_append _ | with_reducible exact (List.map_append ..).symm | (rw [take_snoc (by assumption), List.map_append]; rfl) | (rw [List.map_append]; rfl) | (simp; done))); (focus (first | exact len_none | exact len_one rfl | exact len_two rfl rfl | exact len_enc (fun _ => rfl))); (focus ((conv => lhs; rhs; whnf); simp only [List.length_map, List.length_append, List.length_cons, List.length_nil, List.length_take]; omega)); (focus (simp only [List.length_map, List.length_append, List.length_cons, List.length_nil, List.length_take]; omega))) | (refine p_app (r := (wSt l r k 2).map encRange) ?_ ?_ ?_ ?_ (h := ?_); (focus (first | (rw [wSt1, wSt2, htk, if_pos c2, ← List.append_assoc, List.map_append (l₂ := [_])]; rfl) | with_reducible rfl | with_reducible exact List.nil_append _ | with_reducible exact (List.map_append ..).symm | (rw [take_snoc (by assumption), List.map_append]; rfl) | (rw [List.map_append]; rfl) | (simp; done))); (focus (first | exact len_none | exact len_one rfl | exact len_two rfl rfl | exact len_enc (fun _ => rfl))); (focus ((conv => lhs; rhs; whnf); simp only [List.length_map, List.length_append, List.length_cons, List.length_nil, List.length_take]; omega)); (focus (simp only [List.length_map, List.length_append, List.length_cons, List.length_nil, List.length_take]; omega))) | (refine p_app0R (r := (wSt l r k 2).map encRange) ?_ ?_ ?_ ?_ (h := ?_); (focus (first | (rw [wSt1, wSt2, htk, if_pos c2, ← List.append_assoc, List.map_append (l₂ := [_])]; rfl) | with_reducible rfl | with_reducible exact List.nil_append _ | with_reducible exact (List.map_append ..).symm | (rw [take_snoc (by assumption), List.map_append]; rfl) | (rw [List.map_append]; rfl) | (simp; done))); (focus (first | exact len_none | exact len_one rfl | exact len_two rfl rfl | exact len_enc (fun _ => rfl))); (focus ((conv => lhs; rhs; whnf); simp only [List.length_map, List.length_append, List.length_cons, List.length_nil, List.length_take]; omega)); (focus (simp only [List.length_map, List.length_append, List.length_cons, List.length_nil, List.length_take]; omega))) | (refine go_ ?_; ((repeat' first | exact True.intro | refine Two.mk ?_ ?_); all_goals intros)) | fail "")
        all_goals (refine ⟨2, ?_, ?_, ?_⟩; rotate_left 2; (exact lessA_); (focus (omega)); (focus (omega)))
      · have he : (wSt l r k 1).map encRange = (wSt l r k 2).map encRange := by rw [wSt1, wSt2, htk, if_neg c2, List.append_nil]
        (repeat' first | (refine go_ ?_; ((repeat' first | exact True.intro | refine Two.mk ?_ ?_); all_goals intros)) | fail "")
        all_goals (refine ⟨2, ?_, ?_, ?_⟩; rotate_left 2; (exact lessA_); (focus (omega)); (focus (omega)))
    · skip
      (repeat' first | (refine go_ ?_; ((repeat' first | exact True.intro | refine Two.mk ?_ ?_); all_goals intros)) | fail "")
      all_goals (refine ⟨k + 1, ?_, ?_, ?_⟩; rotate_left 2; (exact lessA_); (focus (omega)); (focus (exact hkn)))
  · (repeat' first | (refine go_ ?_; ((repeat' first | exact True.intro | refine Two.mk ?_ ?_); all_goals intros)) | fail "")
    all_goals (refine ends_ (hr := ?_); rw [List.take_of_length_le (by omega)])
end Go.Proofs.YtfdomanbdfekhaaGreat

/-
  The reference's RangesFault: what it answers. No condition.
-/
set_option linter.unusedVariables false
set_option linter.unusedSimpArgs false
set_option linter.unusedVariables false
namespace Go.Proofs.YtfdomanbdfekhaaGreat
set_option maxRecDepth 100000
attribute [local irreducible] Run RunL QStep GStep Fn Less PL

theorem rangesFaultRef_fn (l : List DRange) (hw : ∀ y, y ∈ l → wfRange y) (hl : l.length * 16 ≤ 140737488355312) : Fn Tryz.prog 62 [.ro (l.map encRange)] (.lit (.int .i64 (rFlt l))) := by
  refine fn_of_run (by kernel_rfl) Tryz.func62 rfl (by kernel_rfl) ?_
  (repeat' first | (refine go_ ?_; ((repeat' first | exact True.intro | refine Two.mk ?_ ?_); all_goals intros)) | fail "")
  refine r_for (fun k : Nat => ⟨[(0, .ro (l.map encRange)), (6, .ro (l.map encRange)), (7, .lit (.int .i64 l.length)), (8, .lit (.int .i64 k)), (3, .lit (.int .i64 (lastHi l k)))], [], 0, Tryz.f62.ntmps⟩)
    (fun k => k ≤ l.length ∧ (rSet (-2) l ↔ rSet (lastHi l k) (l.drop k)) ∧ -2 ≤ lastHi l k ∧ lastHi l k ≤ 4611686018427387903) (fun k => l.length - k) 0 ⟨Nat.zero_le _, by simp [lastHi], by simp [lastHi], by simp [lastHi]⟩ less_to ?_
  rintro k ⟨hk, hi, hb1, hb2⟩
  by_cases hkn : k < l.length
  · have hd := rSet_drop (a := lastHi l k) hkn
    have hwk := hw _ (getD_mem hkn)
    unfold wfRange I64 at hwk
    have hlast : lastHi l (k + 1) = (l.getD k default).Hi := by unfold lastHi; rw [if_neg (by omega), Nat.add_sub_cancel]
    (repeat' first | (refine s_dec (isRange_fn _) (ht := ?_) (hff := ?_) <;> intro _ <;> try (exfalso; omega)) | (refine p_dec (isRange_fn _) (ht := ?_) (hff := ?_) <;> intro _ <;> try (exfalso; omega)) | (refine go_ ?_; ((repeat' first | exact True.intro | refine Two.mk ?_ ?_); all_goals intros)) | fail "")
    all_goals first
      | (refine ends_ (hr := ?_); unfold rFlt; rw [if_neg (fun h => ?_)]; have := hd.1 (hi.1 h); unfold rGood at *; omega)
      | (refine ⟨k + 1, ?_, ?_, ?_⟩; rotate_left 2; (exact lessA_); (focus (omega)); (focus (have hg : rGood (l.getD k default) := (by assumption); unfold rGood at hg; refine ⟨hkn, ⟨fun h => (hd.1 (hi.1 h)).2.2, fun h => hi.2 (hd.2 ⟨by assumption, ?_, h⟩)⟩, ?_, ?_⟩ <;> omega)))
  · (repeat' first | (refine go_ ?_; ((repeat' first | exact True.intro | refine Two.mk ?_ ?_); all_goals intros)) | fail "")
    all_goals (refine ends_ (hr := ?_); unfold rFlt; rw [if_pos (hi.2 (by rw [List.drop_eq_nil_of_le (by omega)]; trivial))])
end Go.Proofs.YtfdomanbdfekhaaGreat

/-
  ranges.Holes and the reference's: what each answers. No condition.
-/
set_option linter.unusedVariables false
set_option linter.unusedSimpArgs false
set_option linter.unusedVariables false
namespace Go.Proofs.YtfdomanbdfekhaaGreat
set_option maxRecDepth 100000
attribute [local irreducible] Run RunL QStep GStep Fn Less PL

theorem wf_good {x : DRange} (h : rGood x) : wfRange x := by unfold rGood at h; unfold wfRange I64; omega
theorem wf_set {l : List DRange} {a : Int} (h : rSet a l) : ∀ y, y ∈ l → wfRange y := fun y hy => wf_good (rSet_good h y hy).1
/-- P3.4: what is left of a range -/
def hol (l : List DRange) (r : DRange) (k : Nat) : List DRange := (l.take k).foldl rCut [r]
theorem hol_snoc {l : List DRange} {k : Nat} (h : k < l.length) (r : DRange) : hol l r (k + 1) = rCut (hol l r k) (l.getD k default) := by
  unfold hol; rw [take_snoc h, List.foldl_append]; rfl
theorem hol_set {l : List DRange} {r : DRange} (hs : rSet (-2) l) (hr : rGood r) : ∀ k, k ≤ l.length → rSet (-2) (hol l r k) ∧ (hol l r k).length ≤ k + 1
  | 0, _ => ⟨⟨hr, by unfold rGood at hr; omega, trivial⟩, by simp [hol]⟩
  | k + 1, hk => by
    obtain ⟨h1, h2⟩ := hol_set hs hr k (by omega)
    have hg := (rSet_good hs _ (getD_mem (show k < l.length by omega))).1
    rw [hol_snoc (by omega)]
    exact ⟨rCut_set hg h1, by have := rCut_len hg h1; omega⟩
def rHoles (l : List DRange) (r : DRange) : List DRange × Int := if rgFlt l r ≠ 0 then ([], rgFlt l r) else (hol l r l.length, 0)
theorem rCutR_ok {l : List DRange} {r : DRange} (hs : rSet (-2) l) (hr : rGood r) : rCutR l r = (rCut l r, 0) := by
  have h : rgFlt l r = 0 := by unfold rgFlt rFlt; rw [if_pos hs, if_neg (by omega), if_pos hr]
  unfold rCutR; rw [h, if_neg (by omega)]
/-- the reference's way -/
def hStep (r : DRange) (s : Int × List DRange) (x : DRange) : Int × List DRange :=
  if x.Hi < r.Lo ∨ r.Hi < x.Lo then s else (x.Hi + 1, s.2 ++ (if s.1 < x.Lo then [⟨s.1, x.Lo - 1⟩] else []))
def hSt (l : List DRange) (r : DRange) (k : Nat) : Int × List DRange := (l.take k).foldl (hStep r) (r.Lo, [])
def hEnd (r : DRange) (s : Int × List DRange) : List DRange := s.2 ++ (if s.1 ≤ r.Hi then [⟨s.1, r.Hi⟩] else [])
end Go.Proofs.YtfdomanbdfekhaaGreat
