/-
  The reference's SpaceFault: what it answers. No condition.
-/
import Derived.Test.YtfdomanbdfekhaaGo
import Derived.Test.YtfdomanbdfekhaaSpaceC
import Derived.Test.YtfdomanbdfekhaaRgsR
import Derived.Test.YtfdomanbdfekhaaUpTo
set_option linter.unusedVariables false
set_option linter.unusedSimpArgs false
set_option linter.unusedVariables false
namespace Go.Proofs.Ytfdomanbdfekhaa
set_option maxRecDepth 100000
attribute [local irreducible] Run RunL QStep GStep Fn Less PL

set_option maxHeartbeats 2000000 in
theorem spaceFault_fn (s : DSpace) (hw : wfSpace s) : Fn Try.prog 97 [.agg (encSpace s)] (.lit (.int .i64 (spFlt s))) := by
  have l1 : s.Sent.length ≤ 1000000000000000 := by have := hw.2.1; omega
  have l2 : s.Skip.length ≤ 1000000000000000 := by have := hw.2.2.2.2.2.2.1; omega
  have l3 : s.Heard.length ≤ 1000000000000000 := by have := hw.2.2.2.2.1; omega
  have h1 := rangesFaultRef_fn s.Heard hw.2.2.2.2.2.1 (by have := hw.2.2.2.2.1; omega)
  have h2 := fun n => isIn_fn s.Skip n hw.2.2.2.2.2.2.1
  refine fn_of_run (by kernel_rfl) Try.func97 rfl (by kernel_rfl) ?_
  refine r_seq ?_
  refine r_region ?_
  (repeat' first | (refine goS_ ?_; ((repeat' first | exact True.intro | refine Two.mk ?_ ?_); all_goals intros)) | fail "")
  refine thenQ_n ?_
  refine r_cut (fun ok : Bool => ⟨[(1, .ptr 0 0 0 0), (2, .lit (.int .i64 0)), (3, .lit (.bool ok))], [(0, some (.box 51 (encSpace s)))], 1, Try.f97.ntmps⟩) (fun ok => ok = true ↔ spHead s ∧ ¬ s.Top ∈ s.Skip) ?_ ?_
  · (repeat' first | (refine s_dec (upTo_fn _ _) (ht := ?_) (hff := ?_) <;> intro _ <;> try (exfalso; omega)) | (refine p_dec (upTo_fn _ _) (ht := ?_) (hff := ?_) <;> intro _ <;> try (exfalso; omega)) | (refine s_call (h1) (h := ?_)) | (refine p_call (h1) (h := ?_)) | (refine s_dec (h2 _) (ht := ?_) (hff := ?_) <;> intro _ <;> try (exfalso; omega)) | (refine p_dec (h2 _) (ht := ?_) (hff := ?_) <;> intro _ <;> try (exfalso; omega)) | (refine go_ ?_; ((repeat' first | exact True.intro | refine Two.mk ?_ ?_); all_goals intros)) | fail "")
    all_goals first
      | (refine ⟨true, ?_, ?_⟩; rotate_left 1; (exact lessA_); (focus (exact ⟨fun _ => ⟨(by unfold spHead; omega), by assumption⟩, fun _ => rfl⟩)))
      | (refine ⟨false, ?_, ?_⟩; rotate_left 1; (exact lessA_); (focus (exact ⟨(fun h => by cases h), fun h => (by obtain ⟨h, h3⟩ := h; unfold spHead at h; first | (exfalso; omega) | exact absurd (by assumption) h3)⟩)))
  rintro ok hok
  (repeat' first | (refine go_ ?_; ((repeat' first | exact True.intro | refine Two.mk ?_ ?_); all_goals intros)) | fail "")
  refine r_for (fun x : Nat × Bool => ⟨[(1, .ptr 0 0 0 0), (2, .lit (.int .i64 0)), (3, .lit (.bool x.2)), (56, .ro (s.Sent.map encParcel)), (57, .lit (.int .i64 s.Sent.length)), (58, .lit (.int .i64 x.1))], [(0, some (.box 51 (encSpace s)))], 1, Try.f97.ntmps⟩)
      (fun x => x.1 ≤ s.Sent.length ∧ (x.2 = true ↔ (spHead s ∧ ¬ s.Top ∈ s.Skip) ∧ AllTo (sentQ s) x.1)) (fun x => s.Sent.length - x.1) (0, ok) ⟨Nat.zero_le _, by rw [hok]; exact ⟨fun h => ⟨h, allTo0⟩, fun h => h.1⟩⟩ less_to ?_
  rintro ⟨k, ok⟩ ⟨hk, hi⟩
  dsimp only at hk hi ⊢
  by_cases hkn : k < s.Sent.length
  · cases ok
    · have hi : ¬ ((spHead s ∧ ¬ s.Top ∈ s.Skip) ∧ AllTo (sentQ s) k) := fun h => by have := hi.2 h; cases this
      (repeat' first | (refine go_ ?_; ((repeat' first | exact True.intro | refine Two.mk ?_ ?_); all_goals intros)) | fail "")
      all_goals (refine ⟨(k + 1, false), ?_, ?_, ?_⟩; rotate_left 2; (exact lessA_); (focus (dsimp only; omega)); (focus (exact ⟨hkn, (fun h => by cases h), fun h => absurd ⟨h.1, (allTo_succ.1 h.2).1⟩ hi⟩)))
    · obtain ⟨hh, ha⟩ := hi.1 rfl
      have hh' := hh.1
      unfold spHead at hh'
      have hq : sentQ s k ↔ sentQ s k := Iff.rfl
      conv at hq => rhs; unfold sentQ
      by_cases hk0 : k = 0
      · (repeat' first | (refine s_dec (upTo_fn _ _) (ht := ?_) (hff := ?_) <;> intro _ <;> try (exfalso; omega)) | (refine p_dec (upTo_fn _ _) (ht := ?_) (hff := ?_) <;> intro _ <;> try (exfalso; omega)) | (refine s_dec (h2 _) (ht := ?_) (hff := ?_) <;> intro _ <;> try (exfalso; omega)) | (refine p_dec (h2 _) (ht := ?_) (hff := ?_) <;> intro _ <;> try (exfalso; omega)) | (refine go_ ?_; ((repeat' first | exact True.intro | refine Two.mk ?_ ?_); all_goals intros)) | fail "")
        all_goals first
          | (refine ⟨(k + 1, true), ?_, ?_, ?_⟩; rotate_left 2; (exact lessA_); (focus (dsimp only; omega)); (focus (exact ⟨hkn, fun _ => ⟨hh, allTo_succ.2 ⟨ha, hq.2 ⟨by omega, by omega, by omega, by omega, by omega, by omega, by assumption, by omega⟩⟩⟩, fun _ => rfl⟩)))
          | (refine ⟨(k + 1, false), ?_, ?_, ?_⟩; rotate_left 2; (exact lessA_); (focus (dsimp only; omega)); (focus (refine ⟨hkn, (fun h => by cases h), fun h => ?_⟩; obtain ⟨q1, q2, q3, q4, q5, q6, q7, q8⟩ := hq.1 (allTo_succ.1 h.2).2; first | (exfalso; omega) | exact absurd (by assumption) q7)))
      · (repeat' first | (refine s_dec (upTo_fn _ _) (ht := ?_) (hff := ?_) <;> intro _ <;> try (exfalso; omega)) | (refine p_dec (upTo_fn _ _) (ht := ?_) (hff := ?_) <;> intro _ <;> try (exfalso; omega)) | (refine s_dec (h2 _) (ht := ?_) (hff := ?_) <;> intro _ <;> try (exfalso; omega)) | (refine p_dec (h2 _) (ht := ?_) (hff := ?_) <;> intro _ <;> try (exfalso; omega)) | (refine go_ ?_; ((repeat' first | exact True.intro | refine Two.mk ?_ ?_); all_goals intros)) | fail "")
        all_goals first
          | (refine ⟨(k + 1, true), ?_, ?_, ?_⟩; rotate_left 2; (exact lessA_); (focus (dsimp only; omega)); (focus (exact ⟨hkn, fun _ => ⟨hh, allTo_succ.2 ⟨ha, hq.2 ⟨by omega, by omega, by omega, by omega, by omega, by omega, by assumption, by omega⟩⟩⟩, fun _ => rfl⟩)))
          | (refine ⟨(k + 1, false), ?_, ?_, ?_⟩; rotate_left 2; (exact lessA_); (focus (dsimp only; omega)); (focus (refine ⟨hkn, (fun h => by cases h), fun h => ?_⟩; obtain ⟨q1, q2, q3, q4, q5, q6, q7, q8⟩ := hq.1 (allTo_succ.1 h.2).2; first | (exfalso; omega) | exact absurd (by assumption) q7)))
  · have hkl : k = s.Sent.length := by omega
    subst hkl
    (repeat' first | (refine go_ ?_; ((repeat' first | exact True.intro | refine Two.mk ?_ ?_); all_goals intros)) | fail "")
    refine r_for (fun x : Nat × Bool => ⟨[(1, .ptr 0 0 0 0), (2, .lit (.int .i64 0)), (3, .lit (.bool x.2)), (108, .ro (s.Skip.map encI)), (109, .lit (.int .i64 s.Skip.length)), (110, .lit (.int .i64 x.1))], [(0, some (.box 51 (encSpace s)))], 1, Try.f97.ntmps⟩)
      (fun x => x.1 ≤ s.Skip.length ∧ (x.2 = true ↔ ((spHead s ∧ ¬ s.Top ∈ s.Skip) ∧ AllTo (sentQ s) s.Sent.length) ∧ AllTo (skipQ s) x.1)) (fun x => s.Skip.length - x.1) (0, ok) ⟨Nat.zero_le _, by rw [hi]; exact ⟨fun h => ⟨h, allTo0⟩, fun h => h.1⟩⟩ less_to ?_
    rintro ⟨k, ok⟩ ⟨hk, hi⟩
    dsimp only at hk hi ⊢
    by_cases hkn : k < s.Skip.length
    · cases ok
      · have hi : ¬ (((spHead s ∧ ¬ s.Top ∈ s.Skip) ∧ AllTo (sentQ s) s.Sent.length) ∧ AllTo (skipQ s) k) := fun h => by have := hi.2 h; cases this
        (repeat' first | (refine go_ ?_; ((repeat' first | exact True.intro | refine Two.mk ?_ ?_); all_goals intros)) | fail "")
        all_goals (refine ⟨(k + 1, false), ?_, ?_, ?_⟩; rotate_left 2; (exact lessA_); (focus (dsimp only; omega)); (focus (exact ⟨hkn, (fun h => by cases h), fun h => absurd ⟨h.1, (allTo_succ.1 h.2).1⟩ hi⟩)))
      · obtain ⟨hh, ha⟩ := hi.1 rfl
        have hh' := hh.1.1
        unfold spHead at hh'
        have hq : skipQ s k ↔ skipQ s k := Iff.rfl
        conv at hq => rhs; unfold skipQ
        by_cases hk0 : k = 0
        · (repeat' first | (refine s_dec (upTo_fn _ _) (ht := ?_) (hff := ?_) <;> intro _ <;> try (exfalso; omega)) | (refine p_dec (upTo_fn _ _) (ht := ?_) (hff := ?_) <;> intro _ <;> try (exfalso; omega)) | (refine go_ ?_; ((repeat' first | exact True.intro | refine Two.mk ?_ ?_); all_goals intros)) | fail "")
          all_goals first
            | (refine ⟨(k + 1, true), ?_, ?_, ?_⟩; rotate_left 2; (exact lessA_); (focus (dsimp only; omega)); (focus (exact ⟨hkn, fun _ => ⟨hh, allTo_succ.2 ⟨ha, hq.2 ⟨by omega, by omega, by omega⟩⟩⟩, fun _ => rfl⟩)))
            | (refine ⟨(k + 1, false), ?_, ?_, ?_⟩; rotate_left 2; (exact lessA_); (focus (dsimp only; omega)); (focus (refine ⟨hkn, (fun h => by cases h), fun h => ?_⟩; have := hq.1 (allTo_succ.1 h.2).2; exfalso; omega)))
        · (repeat' first | (refine s_dec (upTo_fn _ _) (ht := ?_) (hff := ?_) <;> intro _ <;> try (exfalso; omega)) | (refine p_dec (upTo_fn _ _) (ht := ?_) (hff := ?_) <;> intro _ <;> try (exfalso; omega)) | (refine go_ ?_; ((repeat' first | exact True.intro | refine Two.mk ?_ ?_); all_goals intros)) | fail "")
          all_goals first
            | (refine ⟨(k + 1, true), ?_, ?_, ?_⟩; rotate_left 2; (exact lessA_); (focus (dsimp only; omega)); (focus (exact ⟨hkn, fun _ => ⟨hh, allTo_succ.2 ⟨ha, hq.2 ⟨by omega, by omega, by omega⟩⟩⟩, fun _ => rfl⟩)))
            | (refine ⟨(k + 1, false), ?_, ?_, ?_⟩; rotate_left 2; (exact lessA_); (focus (dsimp only; omega)); (focus (refine ⟨hkn, (fun h => by cases h), fun h => ?_⟩; have := hq.1 (allTo_succ.1 h.2).2; exfalso; omega)))
    · have hkl : k = s.Skip.length := by omega
      subst hkl
      cases ok
      · have hi : ¬ spOk s := fun h => by have := hi.2 ⟨⟨h.1, h.2.1⟩, h.2.2⟩; cases this
        (repeat' first | (refine go_ ?_; ((repeat' first | exact True.intro | refine Two.mk ?_ ?_); all_goals intros)) | fail "")
        all_goals exact ends_ (hr := by rw [spFlt_f hi])
      · have hh := hi.1 rfl
        (repeat' first | (refine go_ ?_; ((repeat' first | exact True.intro | refine Two.mk ?_ ?_); all_goals intros)) | fail "")
        all_goals exact ends_ (hr := by rw [spFlt_t ⟨hh.1.1, hh.1.2, hh.2⟩])

end Go.Proofs.Ytfdomanbdfekhaa
