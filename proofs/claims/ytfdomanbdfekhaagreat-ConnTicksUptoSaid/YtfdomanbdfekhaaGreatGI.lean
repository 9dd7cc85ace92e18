/-
  SEVERAL TEXTS IN ONE: each with its own comment.
-/
import Derived.Test.YtfdomanbdfekhaaGreatGA
import Derived.Test.YtfdomanbdfekhaaGreatGE
import Derived.Test.YtfdomanbdfekhaaGreatGC
/-
  space.Check and space.Tell, and the reference's: what each answers. No condition.
-/
set_option linter.unusedVariables false
set_option linter.unusedSimpArgs false
set_option linter.unusedVariables false
namespace Go.Proofs.YtfdomanbdfekhaaGreat
set_option maxRecDepth 100000
attribute [local irreducible] Run RunL QStep GStep Fn Less PL

theorem mem_snoc {l : List Int} {k : Nat} {n : Int} (h : k < l.length) : n ∈ l.take (k + 1) ↔ n ∈ l.take k ∨ n = l.getD k default := by
  rw [take_snoc h, List.mem_append, List.mem_singleton]
theorem skipped_fn (s : DSpace) (n : Int) (hw : wfSpace s) : Fn Tryz.prog 51 [.agg (encSpace s), .lit (.int .i64 n)] (.lit (.bool (decide (n ∈ s.Skip)))) := by
  have hl : s.Skip.length ≤ 1000000000000000 := by have := hw.2.2.2.2.2.2.1; omega
  refine fn_of_run (by kernel_rfl) Tryz.func51 rfl (by kernel_rfl) ?_
  (repeat' first | (refine go_ ?_; ((repeat' first | exact True.intro | refine Two.mk ?_ ?_); all_goals intros)) | fail "")
  refine r_for (fun k : Nat => ⟨[(1, .lit (.int .i64 n)), (8, .ro (s.Skip.map encI)), (9, .lit (.int .i64 s.Skip.length)), (10, .lit (.int .i64 k))], [], 0, Tryz.f51.ntmps⟩)
    (fun k => k ≤ s.Skip.length ∧ ¬ n ∈ s.Skip.take k) (fun k => s.Skip.length - k) 0 ⟨Nat.zero_le _, by simp⟩ less_to ?_
  rintro k ⟨hk, hn⟩
  by_cases hkn : k < s.Skip.length
  · (repeat' first | (refine go_ ?_; ((repeat' first | exact True.intro | refine Two.mk ?_ ?_); all_goals intros)) | fail "")
    all_goals first
      | (refine ⟨k + 1, ?_, ?_, ?_⟩; rotate_left 2; (exact lessA_); (focus (omega)); (focus (refine ⟨hkn, fun h => ?_⟩; rw [mem_snoc hkn] at h; rcases h with h | h; exact hn h; omega)))
      | (refine ends_ (hr := ?_); rw [decide_eq_true (by have h := getD_mem hkn; rwa [show s.Skip.getD k default = n by assumption] at h)])
  · (repeat' first | (refine go_ ?_; ((repeat' first | exact True.intro | refine Two.mk ?_ ?_); all_goals intros)) | fail "")
    all_goals (refine ends_ (hr := ?_); rw [decide_eq_false (by rw [List.take_of_length_le (by omega)] at hn; exact hn)])
theorem isIn_fn (l : List Int) (n : Int) (hl : l.length * 8 ≤ 140737488351232) : Fn Tryz.prog 63 [.ro (l.map encI), .lit (.int .i64 n)] (.lit (.bool (decide (n ∈ l)))) := by
  refine fn_of_run (by kernel_rfl) Tryz.func63 rfl (by kernel_rfl) ?_
  (repeat' first | (refine go_ ?_; ((repeat' first | exact True.intro | refine Two.mk ?_ ?_); all_goals intros)) | fail "")
  refine r_for (fun k : Nat => ⟨[(1, .lit (.int .i64 n)), (7, .ro (l.map encI)), (8, .lit (.int .i64 l.length)), (9, .lit (.int .i64 k))], [], 0, Tryz.f63.ntmps⟩)
    (fun k => k ≤ l.length ∧ ¬ n ∈ l.take k) (fun k => l.length - k) 0 ⟨Nat.zero_le _, by simp⟩ less_to ?_
  rintro k ⟨hk, hn⟩
  by_cases hkn : k < l.length
  · (repeat' first | (refine go_ ?_; ((repeat' first | exact True.intro | refine Two.mk ?_ ?_); all_goals intros)) | fail "")
    all_goals first
      | (refine ⟨k + 1, ?_, ?_, ?_⟩; rotate_left 2; (exact lessA_); (focus (omega)); (focus (refine ⟨hkn, fun h => ?_⟩; rw [mem_snoc hkn] at h; rcases h with h | h; exact hn h; omega)))
      | (refine ends_ (hr := ?_); rw [decide_eq_true (by have h := getD_mem hkn; rwa [show l.getD k default = n by assumption] at h)])
  · (repeat' first | (refine go_ ?_; ((repeat' first | exact True.intro | refine Two.mk ?_ ?_); all_goals intros)) | fail "")
    all_goals (refine ends_ (hr := ?_); rw [decide_eq_false (by rw [List.take_of_length_le (by omega)] at hn; exact hn)])

def sentQ (s : DSpace) (i : Nat) : Prop := 0 ≤ (s.Sent.getD i default).Number ∧ (s.Sent.getD i default).Number < s.Next ∧ 0 ≤ (s.Sent.getD i default).Time ∧ (s.Sent.getD i default).Time ≤ 1099511627776 ∧ 0 ≤ (s.Sent.getD i default).Size ∧ (s.Sent.getD i default).Size ≤ 400 ∧
  ¬ (s.Sent.getD i default).Number ∈ s.Skip ∧ (i = 0 ∨ (s.Sent.getD (i - 1) default).Number < (s.Sent.getD i default).Number)
def skipQ (s : DSpace) (i : Nat) : Prop := 0 ≤ s.Skip.getD i default ∧ s.Skip.getD i default < s.Next ∧ (i = 0 ∨ s.Skip.getD (i - 1) default < s.Skip.getD i default)
def spHead (s : DSpace) : Prop := 0 ≤ s.Next ∧ s.Next ≤ 4611686018427387903 ∧ -1 ≤ s.Top ∧ s.Top < s.Next ∧ s.Sent.length ≤ 24 ∧ s.Heard.length ≤ 6 ∧ rFlt s.Heard = 0 ∧ s.Skip.length ≤ 6
/-- P11.1 -/
def spOk (s : DSpace) : Prop := (spHead s ∧ ¬ s.Top ∈ s.Skip) ∧ AllTo (sentQ s) s.Sent.length ∧ AllTo (skipQ s) s.Skip.length
open Classical in
noncomputable def spFlt (s : DSpace) : Int := if spOk s then 0 else 9
theorem spFlt_cases (s : DSpace) : (spFlt s = 0 ∧ spOk s) ∨ (spFlt s = 9 ∧ ¬ spOk s) := by
  unfold spFlt
  by_cases h : spOk s
  · exact .inl ⟨if_pos h, h⟩
  · exact .inr ⟨if_neg h, h⟩
theorem spFlt_t {s : DSpace} (h : spOk s) : spFlt s = 0 := if_pos h
theorem spFlt_f {s : DSpace} (h : ¬ spOk s) : spFlt s = 9 := if_neg h
def prevN (s : DSpace) (k : Nat) : Int := if k = 0 then -1 else (s.Sent.getD (k - 1) default).Number
def prevS (s : DSpace) (k : Nat) : Int := if k = 0 then -1 else s.Skip.getD (k - 1) default
theorem prevN_pos {s : DSpace} {k : Nat} (h : AllTo (sentQ s) k) : -1 ≤ prevN s k := by
  unfold prevN
  split
  · omega
  · have := (h (k - 1) (by omega)).1; omega
theorem prevS_pos {s : DSpace} {k : Nat} (h : AllTo (skipQ s) k) : -1 ≤ prevS s k := by
  unfold prevS
  split
  · omega
  · have := (h (k - 1) (by omega)).1; omega
theorem prevN_succ (s : DSpace) (k : Nat) : prevN s (k + 1) = (s.Sent.getD k default).Number := by unfold prevN; rw [if_neg (by omega), Nat.add_sub_cancel]
theorem prevS_succ (s : DSpace) (k : Nat) : prevS s (k + 1) = s.Skip.getD k default := by unfold prevS; rw [if_neg (by omega), Nat.add_sub_cancel]
theorem sentQ_iff {s : DSpace} {k : Nat} (h : AllTo (sentQ s) k) : sentQ s k ↔ (prevN s k < (s.Sent.getD k default).Number ∧ (s.Sent.getD k default).Number < s.Next ∧ 0 ≤ (s.Sent.getD k default).Time ∧ (s.Sent.getD k default).Time ≤ 1099511627776 ∧ 0 ≤ (s.Sent.getD k default).Size ∧ (s.Sent.getD k default).Size ≤ 400 ∧ ¬ (s.Sent.getD k default).Number ∈ s.Skip) := by
  have hp := prevN_pos h
  unfold sentQ
  unfold prevN at *
  by_cases hk : k = 0
  · rw [if_pos hk]
    exact ⟨fun ⟨a, b, c, d, e, f, g, _⟩ => ⟨by omega, b, c, d, e, f, g⟩, fun ⟨a, b, c, d, e, f, g⟩ => ⟨by omega, b, c, d, e, f, g, .inl hk⟩⟩
  · rw [if_neg hk] at *
    exact ⟨fun ⟨a, b, c, d, e, f, g, q⟩ => ⟨by omega, b, c, d, e, f, g⟩, fun ⟨a, b, c, d, e, f, g⟩ => ⟨by omega, b, c, d, e, f, g, .inr a⟩⟩
theorem skipQ_iff {s : DSpace} {k : Nat} (h : AllTo (skipQ s) k) : skipQ s k ↔ (prevS s k < s.Skip.getD k default ∧ s.Skip.getD k default < s.Next) := by
  have hp := prevS_pos h
  unfold skipQ
  unfold prevS at *
  by_cases hk : k = 0
  · rw [if_pos hk]
    exact ⟨fun ⟨a, b, _⟩ => ⟨by omega, b⟩, fun ⟨a, b⟩ => ⟨by omega, b, .inl hk⟩⟩
  · rw [if_neg hk] at *
    exact ⟨fun ⟨a, b, q⟩ => ⟨by omega, b⟩, fun ⟨a, b⟩ => ⟨by omega, b, .inr a⟩⟩

set_option maxHeartbeats 2000000 in
theorem spaceCheck_fn (s : DSpace) (hw : wfSpace s) : Fn Tryz.prog 22 [.agg (encSpace s)] (.lit (.int .i64 (spFlt s))) := by
  have l1 : s.Sent.length ≤ 1000000000000000 := by have := hw.2.1; omega
  have l2 : s.Skip.length ≤ 1000000000000000 := by have := hw.2.2.2.2.2.2.1; omega
  have l3 : s.Heard.length ≤ 1000000000000000 := by have := hw.2.2.2.2.1; omega
  have h1 := rangesCheck_fn s.Heard hw.2.2.2.2.2.1 (by have := hw.2.2.2.2.1; omega)
  refine fn_of_run (by kernel_rfl) Tryz.func22 rfl (by kernel_rfl) ?_
  refine r_seq ?_
  refine r_region ?_
  (repeat' first | (refine goS_ ?_; ((repeat' first | exact True.intro | refine Two.mk ?_ ?_); all_goals intros)) | fail "")
  refine thenQ_n ?_
  refine r_cut (fun ok : Bool => ⟨[(1, .ptr 0 0 0 0), (2, .lit (.int .i64 0)), (3, .lit (.bool ok))], [(0, some (.box 26 (encSpace s)))], 1, Tryz.f22.ntmps⟩) (fun ok => ok = true ↔ spHead s) ?_ ?_
  · (repeat' first | (refine s_call (h1) (h := ?_)) | (refine p_call (h1) (h := ?_)) | (refine go_ ?_; ((repeat' first | exact True.intro | refine Two.mk ?_ ?_); all_goals intros)) | fail "")
    all_goals first
      | (refine ⟨true, ?_, ?_⟩; rotate_left 1; (exact lessA_); (focus (exact ⟨fun _ => (by unfold spHead; omega), fun _ => rfl⟩)))
      | (refine ⟨false, ?_, ?_⟩; rotate_left 1; (exact lessA_); (focus (exact ⟨(fun h => by cases h), fun h => (by unfold spHead at h; omega)⟩)))
  rintro ok hok
  (repeat' first | (refine go_ ?_; ((repeat' first | exact True.intro | refine Two.mk ?_ ?_); all_goals intros)) | fail "")
  refine r_for (fun x : Nat × Bool => ⟨[(1, .ptr 0 0 0 0), (2, .lit (.int .i64 0)), (3, .lit (.bool x.2)), (4, .lit (.int .i64 (prevN s x.1))), (54, .ro (s.Sent.map encParcel)), (55, .lit (.int .i64 s.Sent.length)), (56, .lit (.int .i64 x.1))], [(0, some (.box 26 (encSpace s)))], 1, Tryz.f22.ntmps⟩)
      (fun x => x.1 ≤ s.Sent.length ∧ (x.2 = true ↔ spHead s ∧ AllTo (sentQ s) x.1)) (fun x => s.Sent.length - x.1) (0, ok) ⟨Nat.zero_le _, by rw [hok]; exact ⟨fun h => ⟨h, allTo0⟩, fun h => h.1⟩⟩ less_to ?_
  rintro ⟨k, ok⟩ ⟨hk, hi⟩
  dsimp only at hk hi ⊢
  by_cases hkn : k < s.Sent.length
  · have hpn := prevN_succ s k
    cases ok
    · have hi : ¬ (spHead s ∧ AllTo (sentQ s) k) := fun h => by have := hi.2 h; cases this
      (repeat' first | (refine go_ ?_; ((repeat' first | exact True.intro | refine Two.mk ?_ ?_); all_goals intros)) | fail "")
      all_goals (refine ⟨(k + 1, false), ?_, ?_, ?_⟩; rotate_left 2; (exact lessA_); (focus (dsimp only; omega)); (focus (exact ⟨hkn, (fun h => by cases h), fun h => absurd ⟨h.1, (allTo_succ.1 h.2).1⟩ hi⟩)))
    · obtain ⟨hh, ha⟩ := hi.1 rfl
      have hq := sentQ_iff ha
      (repeat' first | (refine s_dec (skipped_fn s _ hw) (ht := ?_) (hff := ?_) <;> intro _ <;> try (exfalso; omega)) | (refine p_dec (skipped_fn s _ hw) (ht := ?_) (hff := ?_) <;> intro _ <;> try (exfalso; omega)) | (refine go_ ?_; ((repeat' first | exact True.intro | refine Two.mk ?_ ?_); all_goals intros)) | fail "")
      all_goals first
        | (refine ⟨(k + 1, true), ?_, ?_, ?_⟩; rotate_left 2; (exact lessA_); (focus (dsimp only; omega)); (focus (exact ⟨hkn, fun _ => ⟨hh, allTo_succ.2 ⟨ha, hq.2 ⟨by omega, by omega, by omega, by omega, by omega, by omega, by assumption⟩⟩⟩, fun _ => rfl⟩)))
        | (refine ⟨(k + 1, false), ?_, ?_, ?_⟩; rotate_left 2; (exact lessA_); (focus (dsimp only; omega)); (focus (refine ⟨hkn, (fun h => by cases h), fun h => ?_⟩; obtain ⟨q1, q2, q3, q4, q5, q6, q7⟩ := hq.1 (allTo_succ.1 h.2).2; first | (exfalso; omega) | exact absurd (by assumption) q7)))
  · have hkl : k = s.Sent.length := by omega
    subst hkl
    (repeat' first | (refine go_ ?_; ((repeat' first | exact True.intro | refine Two.mk ?_ ?_); all_goals intros)) | fail "")
    refine r_for (fun x : Nat × Bool => ⟨[(1, .ptr 0 0 0 0), (2, .lit (.int .i64 0)), (3, .lit (.bool x.2)), (4, .lit (.int .i64 (prevS s x.1))), (105, .ro (s.Skip.map encI)), (106, .lit (.int .i64 s.Skip.length)), (107, .lit (.int .i64 x.1))], [(0, some (.box 26 (encSpace s)))], 1, Tryz.f22.ntmps⟩)
      (fun x => x.1 ≤ s.Skip.length ∧ (x.2 = true ↔ (spHead s ∧ AllTo (sentQ s) s.Sent.length) ∧ AllTo (skipQ s) x.1)) (fun x => s.Skip.length - x.1) (0, ok) ⟨Nat.zero_le _, by rw [hi]; exact ⟨fun h => ⟨h, allTo0⟩, fun h => h.1⟩⟩ less_to ?_
    rintro ⟨k, ok⟩ ⟨hk, hi⟩
    dsimp only at hk hi ⊢
    by_cases hkn : k < s.Skip.length
    · have hpn := prevS_succ s k
      cases ok
      · have hi : ¬ ((spHead s ∧ AllTo (sentQ s) s.Sent.length) ∧ AllTo (skipQ s) k) := fun h => by have := hi.2 h; cases this
        (repeat' first | (refine go_ ?_; ((repeat' first | exact True.intro | refine Two.mk ?_ ?_); all_goals intros)) | fail "")
        all_goals (refine ⟨(k + 1, false), ?_, ?_, ?_⟩; rotate_left 2; (exact lessA_); (focus (dsimp only; omega)); (focus (exact ⟨hkn, (fun h => by cases h), fun h => absurd ⟨h.1, (allTo_succ.1 h.2).1⟩ hi⟩)))
      · obtain ⟨hh, ha⟩ := hi.1 rfl
        have hq := skipQ_iff ha
        (repeat' first | (refine go_ ?_; ((repeat' first | exact True.intro | refine Two.mk ?_ ?_); all_goals intros)) | fail "")
        all_goals first
          | (refine ⟨(k + 1, true), ?_, ?_, ?_⟩; rotate_left 2; (exact lessA_); (focus (dsimp only; omega)); (focus (exact ⟨hkn, fun _ => ⟨hh, allTo_succ.2 ⟨ha, hq.2 ⟨by omega, by omega⟩⟩⟩, fun _ => rfl⟩)))
          | (refine ⟨(k + 1, false), ?_, ?_, ?_⟩; rotate_left 2; (exact lessA_); (focus (dsimp only; omega)); (focus (refine ⟨hkn, (fun h => by cases h), fun h => ?_⟩; have := hq.1 (allTo_succ.1 h.2).2; exfalso; omega)))
    · have hkl : k = s.Skip.length := by omega
      subst hkl
      cases ok
      · have hi : ¬ spOk s := fun h => by have := hi.2 ⟨⟨h.1.1, h.2.1⟩, h.2.2⟩; cases this
        (repeat' first | (refine go_ ?_; ((repeat' first | exact True.intro | refine Two.mk ?_ ?_); all_goals intros)) | fail "")
        all_goals exact ends_ (hr := by rw [spFlt_f hi])
      · have hh := hi.1 rfl
        (repeat' first | (refine s_dec (skipped_fn s _ hw) (ht := ?_) (hff := ?_) <;> intro _ <;> try (exfalso; omega)) | (refine p_dec (skipped_fn s _ hw) (ht := ?_) (hff := ?_) <;> intro _ <;> try (exfalso; omega)) | (refine go_ ?_; ((repeat' first | exact True.intro | refine Two.mk ?_ ?_); all_goals intros)) | fail "")
        all_goals first
          | exact ends_ (hr := by rw [spFlt_t ⟨⟨hh.1.1, by assumption⟩, hh.1.2, hh.2⟩])
          | exact ends_ (hr := by rw [spFlt_f (fun h => absurd (by assumption) h.1.2)])
end Go.Proofs.YtfdomanbdfekhaaGreat

/-
  The reference's SpaceFault: what it answers. No condition.
-/
set_option linter.unusedVariables false
set_option linter.unusedSimpArgs false
set_option linter.unusedVariables false
namespace Go.Proofs.YtfdomanbdfekhaaGreat
set_option maxRecDepth 100000
attribute [local irreducible] Run RunL QStep GStep Fn Less PL

set_option maxHeartbeats 2000000 in
theorem spaceFault_fn (s : DSpace) (hw : wfSpace s) : Fn Tryz.prog 38 [.agg (encSpace s)] (.lit (.int .i64 (spFlt s))) := by
  have l1 : s.Sent.length ≤ 1000000000000000 := by have := hw.2.1; omega
  have l2 : s.Skip.length ≤ 1000000000000000 := by have := hw.2.2.2.2.2.2.1; omega
  have l3 : s.Heard.length ≤ 1000000000000000 := by have := hw.2.2.2.2.1; omega
  have h1 := rangesFaultRef_fn s.Heard hw.2.2.2.2.2.1 (by have := hw.2.2.2.2.1; omega)
  have h2 := fun n => isIn_fn s.Skip n hw.2.2.2.2.2.2.1
  refine fn_of_run (by kernel_rfl) Tryz.func38 rfl (by kernel_rfl) ?_
  refine r_seq ?_
  refine r_region ?_
  (repeat' first | (refine goS_ ?_; ((repeat' first | exact True.intro | refine Two.mk ?_ ?_); all_goals intros)) | fail "")
  refine thenQ_n ?_
  refine r_cut (fun ok : Bool => ⟨[(1, .ptr 0 0 0 0), (2, .lit (.int .i64 0)), (3, .lit (.bool ok))], [(0, some (.box 26 (encSpace s)))], 1, Tryz.f38.ntmps⟩) (fun ok => ok = true ↔ spHead s ∧ ¬ s.Top ∈ s.Skip) ?_ ?_
  · (repeat' first | (refine s_dec (upTo_fn _ _) (ht := ?_) (hff := ?_) <;> intro _ <;> try (exfalso; omega)) | (refine p_dec (upTo_fn _ _) (ht := ?_) (hff := ?_) <;> intro _ <;> try (exfalso; omega)) | (refine s_call (h1) (h := ?_)) | (refine p_call (h1) (h := ?_)) | (refine s_dec (h2 _) (ht := ?_) (hff := ?_) <;> intro _ <;> try (exfalso; omega)) | (refine p_dec (h2 _) (ht := ?_) (hff := ?_) <;> intro _ <;> try (exfalso; omega)) | (refine go_ ?_; ((repeat' first | exact True.intro | refine Two.mk ?_ ?_); all_goals intros)) | fail "")
    all_goals first
      | (refine ⟨true, ?_, ?_⟩; rotate_left 1; (exact lessA_); (focus (exact ⟨fun _ => ⟨(by unfold spHead; omega), by assumption⟩, fun _ => rfl⟩)))
      | (refine ⟨false, ?_, ?_⟩; rotate_left 1; (exact lessA_); (focus (exact ⟨(fun h => by cases h), fun h => (by obtain ⟨h, h3⟩ := h; unfold spHead at h; first | (exfalso; omega) | exact absurd (by assumption) h3)⟩)))
  rintro ok hok
  (repeat' first | (refine go_ ?_; ((repeat' first | exact True.intro | refine Two.mk ?_ ?_); all_goals intros)) | fail "")
  refine r_for (fun x : Nat × Bool => ⟨[(1, .ptr 0 0 0 0), (2, .lit (.int .i64 0)), (3, .lit (.bool x.2)), (56, .ro (s.Sent.map encParcel)), (57, .lit (.int .i64 s.Sent.length)), (58, .lit (.int .i64 x.1))], [(0, some (.box 26 (encSpace s)))], 1, Tryz.f38.ntmps⟩)
      (fun x => x.1 ≤ s.Sent.length ∧ (x.2 = true ↔ (spHead s ∧ ¬ s.Top ∈ s.Skip) ∧ AllTo (sentQ s) x.1)) (fun x => s.Sent.length - x.1) (0, ok) ⟨Nat.zero_le _, by rw [hok]; exact ⟨fun h => ⟨h, allTo0⟩, fun h => h.1⟩⟩ less_to ?_
  rintro ⟨k, ok⟩ ⟨hk, hi⟩
  dsimp only at hk hi ⊢
  by_cases hkn : k < s.Sent.length
  · cases ok
    · have hi : ¬ ((spHead s ∧ ¬ s.Top ∈ s.Skip) ∧ AllTo (sentQ s) k) := fun h => by have := hi.2 h; cases this
      (repeat' first | (refine go_ ?_; ((repeat' first | exact True.intro | refine Two.mk ?_ ?_); all_goals intros)) | fail "")
      all_goals (refine ⟨(k + 1, false), ?_, ?_, ?_⟩; rotate_left 2; (exact lessA_); (focus (dsimp only; omega)); (focus (exact ⟨hkn, (fun h => by cases h), fun h => absurd ⟨h.1, (allTo_succ.1 h.2).1⟩ hi⟩)))
    · obtain ⟨hh, ha⟩ := hi.1 rfl
      have hh' := hh.1
      unfold spHead at hh'
      have hq : sentQ s k ↔ sentQ s k := Iff.rfl
      conv at hq => rhs; unfold sentQ
      by_cases hk0 : k = 0
      · (repeat' first | (refine s_dec (upTo_fn _ _) (ht := ?_) (hff := ?_) <;> intro _ <;> try (exfalso; omega)) | (refine p_dec (upTo_fn _ _) (ht := ?_) (hff := ?_) <;> intro _ <;> try (exfalso; omega)) | (refine s_dec (h2 _) (ht := ?_) (hff := ?_) <;> intro _ <;> try (exfalso; omega)) | (refine p_dec (h2 _) (ht := ?_) (hff := ?_) <;> intro _ <;> try (exfalso; omega)) | (refine go_ ?_; ((repeat' first | exact True.intro | refine Two.mk ?_ ?_); all_goals intros)) | fail "")
        all_goals first
          | (refine ⟨(k + 1, true), ?_, ?_, ?_⟩; rotate_left 2; (exact lessA_); (focus (dsimp only; omega)); (focus (exact ⟨hkn, fun _ => ⟨hh, allTo_succ.2 ⟨ha, hq.2 ⟨by omega, by omega, by omega, by omega, by omega, by omega, by assumption, by omega⟩⟩⟩, fun _ => rfl⟩)))
          | (refine ⟨(k + 1, false), ?_, ?_, ?_⟩; rotate_left 2; (exact lessA_); (focus (dsimp only; omega)); (focus (refine ⟨hkn, (fun h => by cases h), fun h => ?_⟩; obtain ⟨q1, q2, q3, q4, q5, q6, q7, q8⟩ := hq.1 (allTo_succ.1 h.2).2; first | (exfalso; omega) | exact absurd (by assumption) q7)))
      · (repeat' first | (refine s_dec (upTo_fn _ _) (ht := ?_) (hff := ?_) <;> intro _ <;> try (exfalso; omega)) | (refine p_dec (upTo_fn _ _) (ht := ?_) (hff := ?_) <;> intro _ <;> try (exfalso; omega)) | (refine s_dec (h2 _) (ht := ?_) (hff := ?_) <;> intro _ <;> try (exfalso; omega)) | (refine p_dec (h2 _) (ht := ?_) (hff := ?_) <;> intro _ <;> try (exfalso; omega)) | (refine go_ ?_; ((repeat' first | exact True.intro | refine Two.mk ?_ ?_); all_goals intros)) | fail "")
        all_goals first
          | (refine ⟨(k + 1, true), ?_, ?_, ?_⟩; rotate_left 2; (exact lessA_); (focus (dsimp only; omega)); (focus (exact ⟨hkn, fun _ => ⟨hh, allTo_succ.2 ⟨ha, hq.2 ⟨by omega, by omega, by omega, by omega, by omega, by omega, by assumption, by omega⟩⟩⟩, fun _ => rfl⟩)))
          | (refine ⟨(k + 1, false), ?_, ?_, ?_⟩; rotate_left 2; (exact lessA_); (focus (dsimp only; omega)); (focus (refine ⟨hkn, (fun h => by cases h), fun h => ?_⟩; obtain ⟨q1, q2, q3, q4, q5, q6, q7, q8⟩ := hq.1 (allTo_succ.1 h.2).2; first | (exfalso; omega) | exact absurd (by assumption) q7)))
  · have hkl : k = s.Sent.length := by omega
    subst hkl
    (repeat' first | (refine go_ ?_; ((repeat' first | exact True.intro | refine Two.mk ?_ ?_); all_goals intros)) | fail "")
    refine r_for (fun x : Nat × Bool => ⟨[(1, .ptr 0 0 0 0), (2, .lit (.int .i64 0)), (3, .lit (.bool x.2)), (108, .ro (s.Skip.map encI)), (109, .lit (.int .i64 s.Skip.length)), (110, .lit (.int .i64 x.1))], [(0, some (.box 26 (encSpace s)))], 1, Tryz.f38.ntmps⟩)
      (fun x => x.1 ≤ s.Skip.length ∧ (x.2 = true ↔ ((spHead s ∧ ¬ s.Top ∈ s.Skip) ∧ AllTo (sentQ s) s.Sent.length) ∧ AllTo (skipQ s) x.1)) (fun x => s.Skip.length - x.1) (0, ok) ⟨Nat.zero_le _, by rw [hi]; exact ⟨fun h => ⟨h, allTo0⟩, fun h => h.1⟩⟩ less_to ?_
    rintro ⟨k, ok⟩ ⟨hk, hi⟩
    dsimp only at hk hi ⊢
    by_cases hkn : k < s.Skip.length
    · cases ok
      · have hi : ¬ (((spHead s ∧ ¬ s.Top ∈ s.Skip) ∧ AllTo (sentQ s) s.Sent.length) ∧ AllTo (skipQ s) k) := fun h => by have := hi.2 h; cases this
        (repeat' first | (refine go_ ?_; ((repeat' first | exact True.intro | refine Two.mk ?_ ?_); all_goals intros)) | fail "")
        all_goals (refine ⟨(k + 1, false), ?_, ?_, ?_⟩; rotate_left 2; (exact lessA_); (focus (dsimp only; omega)); (focus (exact ⟨hkn, (fun h => by cases h), fun h => absurd ⟨h.1, (allTo_succ.1 h.2).1⟩ hi⟩)))
      · obtain ⟨hh, ha⟩ := hi.1 rfl
        have hh' := hh.1.1
        unfold spHead at hh'
        have hq : skipQ s k ↔ skipQ s k := Iff.rfl
        conv at hq => rhs; unfold skipQ
        by_cases hk0 : k = 0
        · (repeat' first | (refine s_dec (upTo_fn _ _) (ht := ?_) (hff := ?_) <;> intro _ <;> try (exfalso; omega)) | (refine p_dec (upTo_fn _ _) (ht := ?_) (hff := ?_) <;> intro _ <;> try (exfalso; omega)) | (refine go_ ?_; ((repeat' first | exact True.intro | refine Two.mk ?_ ?_); all_goals intros)) | fail "")
          all_goals first
            | (refine ⟨(k + 1, true), ?_, ?_, ?_⟩; rotate_left 2; (exact lessA_); (focus (dsimp only; omega)); (focus (exact ⟨hkn, fun _ => ⟨hh, allTo_succ.2 ⟨ha, hq.2 ⟨by omega, by omega, by omega⟩⟩⟩, fun _ => rfl⟩)))
            | (refine ⟨(k + 1, false), ?_, ?_, ?_⟩; rotate_left 2; (exact lessA_); (focus (dsimp only; omega)); (focus (refine ⟨hkn, (fun h => by cases h), fun h => ?_⟩; have := hq.1 (allTo_succ.1 h.2).2; exfalso; omega)))
        · (repeat' first | (refine s_dec (upTo_fn _ _) (ht := ?_) (hff := ?_) <;> intro _ <;> try (exfalso; omega)) | (refine p_dec (upTo_fn _ _) (ht := ?_) (hff := ?_) <;> intro _ <;> try (exfalso; omega)) | (refine go_ ?_; ((repeat' first | exact True.intro | refine Two.mk ?_ ?_); all_goals intros)) | fail "")
          all_goals first
            | (refine ⟨(k + 1, true), ?_, ?_, ?_⟩; rotate_left 2; (exact lessA_); (focus (dsimp only; omega)); (focus (exact ⟨hkn, fun _ => ⟨hh, allTo_succ.2 ⟨ha, hq.2 ⟨by omega, by omega, by omega⟩⟩⟩, fun _ => rfl⟩)))
            | (refine ⟨(k + 1, false), ?_, ?_, ?_⟩; rotate_left 2; (exact lessA_); (focus (dsimp only; omega)); (focus (refine ⟨hkn, (fun h => by cases h), fun h => ?_⟩; have := hq.1 (allTo_succ.1 h.2).2; exfalso; omega)))
    · have hkl : k = s.Skip.length := by omega
      subst hkl
      cases ok
      · have hi : ¬ spOk s := fun h => by have := hi.2 ⟨⟨h.1, h.2.1⟩, h.2.2⟩; cases this
        (repeat' first | (refine go_ ?_; ((repeat' first | exact True.intro | refine Two.mk ?_ ?_); all_goals intros)) | fail "")
        all_goals exact ends_ (hr := by rw [spFlt_f hi])
      · have hh := hi.1 rfl
        (repeat' first | (refine go_ ?_; ((repeat' first | exact True.intro | refine Two.mk ?_ ?_); all_goals intros)) | fail "")
        all_goals exact ends_ (hr := by rw [spFlt_t ⟨hh.1.1, hh.1.2, hh.2⟩])

end Go.Proofs.YtfdomanbdfekhaaGreat
