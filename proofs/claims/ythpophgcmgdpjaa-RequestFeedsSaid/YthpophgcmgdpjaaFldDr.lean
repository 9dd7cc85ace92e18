/-
  The reference's knownOf, lineOf and FieldsOf: what they answer. No condition.
-/
import Derived.Test.YthpophgcmgdpjaaGo
import Derived.Test.YthpophgcmgdpjaaFldDe
set_option linter.unusedVariables false
set_option linter.unusedSimpArgs false
set_option linter.unusedVariables false
namespace Go.Proofs.Ythpophgcmgdpjaa
set_option maxRecDepth 100000
attribute [local irreducible] Run RunL QStep GStep Fn Less PL FnM

set_option maxHeartbeats 8000000 in
theorem knownOf_fn (s : List UInt8) (w : Int) (hw : I64 w) (hs : s.length ≤ 1000000000000000) : ∃ k : Int, Fn Try.prog 144 [.lit (.string (strB s)), .lit (.int .i64 w)] (.tup [.agg (encField (knF s w).1), .lit (.int .i64 k), .lit (.int .i64 (knF s w).2.2)]) ∧
    ((knF s w).2.2 = 0 → ∃ j : Nat, k = j ∧ (knF s w).2.1 = s.drop j ∧ 1 ≤ j ∧ j ≤ s.length) := by
  have g0 := knownRef_fn
  have hK := knownL_len
  unfold knF numF
  rw [if_neg nn0']
  have g1 := prefixOf_fn s w hw hs
  have hk := @preD_ok s w
  generalize preD s w = a at *
  obtain ⟨n, j, e⟩ := a
  dsimp only at *
  by_cases he : e = 0
  · subst he
    obtain ⟨n, j, rfl, rfl, q1, q2, q3⟩ := hk rfl
    rw [if_neg nn0']
    dsimp only
    rw [if_neg nn0']
    clear hk
    by_cases h2 : 11 ≤ (n : Int)
    · rw [if_pos h2]
      dsimp only
      refine ⟨0, ?_, fun h => (by cases h)⟩
      clear g0
      refine fn_of_run (by kernel_rfl) Try.func144 rfl (by kernel_rfl) ?_
      (repeat' first | (refine s_call (g1) (h := ?_)) | (refine p_call (g1) (h := ?_)) | (refine go_ ?_; ((repeat' first | exact True.intro | refine Two.mk ?_ ?_); all_goals intros)) | fail "")
      all_goals first
        | (exact endwA_)
        | skip
    · rw [if_neg h2]
      dsimp only
      rw [Int.toNat_natCast]
      refine ⟨j, ?_, fun _ => ⟨j, rfl, by rw [Int.toNat_natCast], q2, q3⟩⟩
      generalize knownL = K at *
      refine fn_of_run (by kernel_rfl) Try.func144 rfl (by kernel_rfl) ?_
      (repeat' first | (refine s_call (g0) (h := ?_)) | (refine p_call (g0) (h := ?_)) | (refine s_call (g1) (h := ?_)) | (refine p_call (g1) (h := ?_)) | (refine go_ ?_; ((repeat' first | exact True.intro | refine Two.mk ?_ ?_); all_goals intros)) | fail "")
      all_goals first
        | (exact endwA_)
        | skip
  · rw [if_pos he]
    dsimp only
    rw [if_pos he]
    dsimp only
    refine ⟨0, ?_, fun h => absurd h he⟩
    clear hk g0
    refine fn_of_run (by kernel_rfl) Try.func144 rfl (by kernel_rfl) ?_
    (repeat' first | (refine s_call (g1) (h := ?_)) | (refine p_call (g1) (h := ?_)) | (refine go_ ?_; ((repeat' first | exact True.intro | refine Two.mk ?_ ?_); all_goals intros)) | fail "")
    all_goals first
      | (exact endwA_)
      | skip
set_option maxHeartbeats 16000000 in
theorem lineOf_fn (t : DTable) (need : Int) (s : List UInt8) (hw : wfTable t) (hn : 0 ≤ need ∧ need ≤ 4611686018427387903) (hs0 : ¬ s.length = 0) (hs : s.length ≤ 1000000000000000) : ∃ (f : DField) (k : Int), wfField f ∧
    Fn Try.prog 64 [.agg (encTable t), .lit (.int .i64 need), .lit (.string (strB s))] (.tup [.agg (encField f), .lit (.int .i64 k), .lit (.int .i64 (lineF t need s).2.2)]) ∧
    ((lineF t need s).2.2 = 0 → f = (lineF t need s).1 ∧ ∃ j : Nat, k = j ∧ (lineF t need s).2.1 = s.drop j ∧ 1 ≤ j ∧ j ≤ s.length) := by
  have wz : wfField ⟨[], []⟩ := by unfold wfField; simp
  have hlw := @lineF_wf t hw need s
  unfold lineF at hlw ⊢
  by_cases cA : 192 ≤ (s.getD 0 default).toNat
  · rw [if_pos cA] at hlw ⊢
    obtain ⟨k, g1, hk⟩ := knownOf_fn s 6 (by unfold I64; omega) hs
    generalize knF s 6 = a at *
    obtain ⟨⟨nm, vl⟩, s1, e⟩ := a
    dsimp only [encField] at *
    refine ⟨⟨nm, vl⟩, k, hlw, ?_, fun h => ⟨rfl, hk h⟩⟩
    clear hk
    refine fn_of_run (by kernel_rfl) Try.func64 rfl (by kernel_rfl) ?_
    (repeat' first | (refine s_call (g1) (h := ?_)) | (refine p_call (g1) (h := ?_)) | (refine go_ ?_; ((repeat' first | exact True.intro | refine Two.mk ?_ ?_); all_goals intros)) | fail "")
    all_goals first
      | (exact endwA_)
      | skip
  rw [if_neg cA] at hlw ⊢
  by_cases cB : 128 ≤ (s.getD 0 default).toNat
  · rw [if_pos cB] at hlw ⊢
    unfold numF at hlw ⊢
    rw [if_neg nn0'] at hlw ⊢
    have g1 := prefixOf_fn s 6 (by unfold I64; omega) hs
    have hk := @preD_ok s 6
    generalize preD s 6 = a at *
    obtain ⟨n, j, e⟩ := a
    dsimp only at *
    by_cases he : e = 0
    · subst he
      obtain ⟨n, j, rfl, rfl, q1, q2, q3⟩ := hk rfl
      rw [if_neg nn0'] at hlw ⊢
      dsimp only at *
      rw [if_neg nn0'] at hlw ⊢
      rw [Int.toNat_natCast] at hlw ⊢
      clear hk
      by_cases h2 : need ≤ (n : Int)
      · rw [if_pos h2] at hlw ⊢
        refine ⟨⟨[], []⟩, 0, wz, ?_, fun h => (by cases h)⟩
        refine fn_of_run (by kernel_rfl) Try.func64 rfl (by kernel_rfl) ?_
        (repeat' first | (refine s_call (g1) (h := ?_)) | (refine p_call (g1) (h := ?_)) | (refine go_ ?_; ((repeat' first | exact True.intro | refine Two.mk ?_ ?_); all_goals intros)) | fail "")
        all_goals first
          | (exact endwA_)
          | skip
      · rw [if_neg h2] at hlw ⊢
        have h3 := got_fn t (need - 1 - n) hw
        generalize tabGet t (need - 1 - n) = q at *
        obtain ⟨⟨nm, vl⟩, e⟩ := q
        dsimp only [encField] at *
        refine ⟨⟨nm, vl⟩, j, hlw, ?_, fun h => ⟨rfl, j, rfl, rfl, q2, q3⟩⟩
        refine fn_of_run (by kernel_rfl) Try.func64 rfl (by kernel_rfl) ?_
        (repeat' first | (refine s_call (g1) (h := ?_)) | (refine p_call (g1) (h := ?_)) | (refine s_call (h3) (h := ?_)) | (refine p_call (h3) (h := ?_)) | (refine go_ ?_; ((repeat' first | exact True.intro | refine Two.mk ?_ ?_); all_goals intros)) | fail "")
        all_goals first
          | (exact endwA_)
          | skip
    · rw [if_pos he]
      dsimp only
      rw [if_pos he]
      dsimp only
      refine ⟨⟨[], []⟩, 0, wz, ?_, fun h => absurd h he⟩
      clear hk hlw
      refine fn_of_run (by kernel_rfl) Try.func64 rfl (by kernel_rfl) ?_
      (repeat' first | (refine s_call (g1) (h := ?_)) | (refine p_call (g1) (h := ?_)) | (refine go_ ?_; ((repeat' first | exact True.intro | refine Two.mk ?_ ?_); all_goals intros)) | fail "")
      all_goals first
        | (exact endwA_)
        | skip
  rw [if_neg cB] at hlw ⊢
  by_cases cC : 64 ≤ (s.getD 0 default).toNat ∧ (s.getD 0 default).toNat < 80
  · rw [if_pos cC] at hlw ⊢
    obtain ⟨k, g1, hk⟩ := knownOf_fn s 4 (by unfold I64; omega) hs
    have wk := @knF_wf s 4
    generalize knF s 4 = a at *
    obtain ⟨⟨nm, vl⟩, s1, e⟩ := a
    dsimp only [encField] at *
    by_cases he : e = 0
    · subst he
      obtain ⟨j, rfl, rfl, q1, q2⟩ := hk rfl
      clear hk
      unfold txtF at hlw ⊢
      rw [if_neg nn0'] at hlw ⊢
      have hdl : (s.drop j).length = s.length - j := List.length_drop
      have et : (s.take s.length).drop j = s.drop j := by rw [List.take_length]
      have g2 := textOf_fn (s.drop j) 7 (by unfold I64; omega) (by omega)
      have hk2 := @txtD_ok (s.drop j) 7
      have hl2 := @txtD_len (s.drop j) 7
      generalize txtD (s.drop j) 7 = a at *
      obtain ⟨v2, i, e⟩ := a
      dsimp only at *
      have wf2 : wfField ⟨nm, v2⟩ := by unfold wfField at *; dsimp only at *; omega
      by_cases he : e = 0
      · subst he
        obtain ⟨i, rfl, p1, p2, p3⟩ := hk2 rfl
        rw [if_neg nn0']
        dsimp only
        rw [Int.toNat_natCast]
        refine ⟨⟨nm, v2⟩, (j : Int) + i, wf2, ?_, fun _ => ⟨rfl, j + i, by push_cast; rfl, by rw [List.drop_drop], by omega, by omega⟩⟩
        clear hk2 hlw wk
        refine fn_of_run (by kernel_rfl) Try.func64 rfl (by kernel_rfl) ?_
        (repeat' first | (refine s_call (g1) (h := ?_)) | (refine p_call (g1) (h := ?_)) | (refine s_call (g2) (h := ?_)) | (refine p_call (g2) (h := ?_)) | (refine s_slice (r := s.drop j) (j) (s.length) ?_ ?_ ?_ ?_ ?_ (h := ?_); (focus (first | rfl | (simp only [Option.getD_some, Option.getD_none, List.length_map]; omega))); (focus (first | rfl | (simp only [Option.getD_some, Option.getD_none, List.length_map]; omega))); (focus omega); (focus omega); (focus (first | with_reducible rfl | assumption | (simp; done)))) | (refine p_slice (r := s.drop j) (j) (s.length) ?_ ?_ ?_ ?_ ?_ (h := ?_); (focus (first | rfl | (simp only [Option.getD_some, Option.getD_none, List.length_map]; omega))); (focus (first | rfl | (simp only [Option.getD_some, Option.getD_none, List.length_map]; omega))); (focus omega); (focus omega); (focus (first | with_reducible rfl | assumption | (simp; done)))) | (refine s_slice_str (r := s.drop j) (j) (s.length) ?_ ?_ ?_ ?_ ?_ (h := ?_); (focus (first | rfl | (simp only [Option.getD_some, Option.getD_none, List.length_map]; omega))); (focus (first | rfl | (simp only [Option.getD_some, Option.getD_none, List.length_map]; omega))); (focus omega); (focus omega); (focus (first | with_reducible rfl | assumption | (simp; done)))) | (refine p_slice_str (r := s.drop j) (j) (s.length) ?_ ?_ ?_ ?_ ?_ (h := ?_); (focus (first | rfl | (simp only [Option.getD_some, Option.getD_none, List.length_map]; omega))); (focus (first | rfl | (simp only [Option.getD_some, Option.getD_none, List.length_map]; omega))); (focus omega); (focus omega); (focus (first | with_reducible rfl | assumption | (simp; done)))) | (refine s_sliceO (r := s.drop j) (j) (s.length) ?_ ?_ ?_ ?_ ?_ (h := ?_); (focus (first | rfl | (simp only [Option.getD_some, Option.getD_none, List.length_map]; omega))); (focus (first | rfl | (simp only [Option.getD_some, Option.getD_none, List.length_map]; omega))); (focus omega); (focus omega); (focus (first | with_reducible rfl | assumption | (simp; done)))) | (refine s_sliceM (r := s.drop j) (j) (s.length) ?_ ?_ ?_ ?_ ?_ (h := ?_); (focus (first | rfl | (simp only [Option.getD_some, Option.getD_none, List.length_map]; omega))); (focus (first | rfl | (simp only [Option.getD_some, Option.getD_none, List.length_map]; omega))); (focus omega); (focus omega); (focus (first | with_reducible rfl | assumption | (simp; done)))) | (refine go_ ?_; ((repeat' first | exact True.intro | refine Two.mk ?_ ?_); all_goals intros)) | fail "")
        all_goals first
          | (exact endwA_)
          | skip
      · rw [if_pos he]
        dsimp only
        have hi : ∃ i2 : Int, i2 = i := ⟨i, rfl⟩
        refine ⟨⟨nm, v2⟩, IntKind.i64.wrap ((j : Int) + i), wf2, ?_, fun h => absurd h he⟩
        clear hk2 hlw wk
        refine fn_of_run (by kernel_rfl) Try.func64 rfl (by kernel_rfl) ?_
        (repeat' first | (refine s_call (g1) (h := ?_)) | (refine p_call (g1) (h := ?_)) | (refine s_call (g2) (h := ?_)) | (refine p_call (g2) (h := ?_)) | (refine s_slice (r := s.drop j) (j) (s.length) ?_ ?_ ?_ ?_ ?_ (h := ?_); (focus (first | rfl | (simp only [Option.getD_some, Option.getD_none, List.length_map]; omega))); (focus (first | rfl | (simp only [Option.getD_some, Option.getD_none, List.length_map]; omega))); (focus omega); (focus omega); (focus (first | with_reducible rfl | assumption | (simp; done)))) | (refine p_slice (r := s.drop j) (j) (s.length) ?_ ?_ ?_ ?_ ?_ (h := ?_); (focus (first | rfl | (simp only [Option.getD_some, Option.getD_none, List.length_map]; omega))); (focus (first | rfl | (simp only [Option.getD_some, Option.getD_none, List.length_map]; omega))); (focus omega); (focus omega); (focus (first | with_reducible rfl | assumption | (simp; done)))) | (refine s_slice_str (r := s.drop j) (j) (s.length) ?_ ?_ ?_ ?_ ?_ (h := ?_); (focus (first | rfl | (simp only [Option.getD_some, Option.getD_none, List.length_map]; omega))); (focus (first | rfl | (simp only [Option.getD_some, Option.getD_none, List.length_map]; omega))); (focus omega); (focus omega); (focus (first | with_reducible rfl | assumption | (simp; done)))) | (refine p_slice_str (r := s.drop j) (j) (s.length) ?_ ?_ ?_ ?_ ?_ (h := ?_); (focus (first | rfl | (simp only [Option.getD_some, Option.getD_none, List.length_map]; omega))); (focus (first | rfl | (simp only [Option.getD_some, Option.getD_none, List.length_map]; omega))); (focus omega); (focus omega); (focus (first | with_reducible rfl | assumption | (simp; done)))) | (refine s_sliceO (r := s.drop j) (j) (s.length) ?_ ?_ ?_ ?_ ?_ (h := ?_); (focus (first | rfl | (simp only [Option.getD_some, Option.getD_none, List.length_map]; omega))); (focus (first | rfl | (simp only [Option.getD_some, Option.getD_none, List.length_map]; omega))); (focus omega); (focus omega); (focus (first | with_reducible rfl | assumption | (simp; done)))) | (refine s_sliceM (r := s.drop j) (j) (s.length) ?_ ?_ ?_ ?_ ?_ (h := ?_); (focus (first | rfl | (simp only [Option.getD_some, Option.getD_none, List.length_map]; omega))); (focus (first | rfl | (simp only [Option.getD_some, Option.getD_none, List.length_map]; omega))); (focus omega); (focus omega); (focus (first | with_reducible rfl | assumption | (simp; done)))) | (refine go_ ?_; ((repeat' first | exact True.intro | refine Two.mk ?_ ?_); all_goals intros)) | fail "")
        all_goals first
          | (exact endwA_)
          | skip
    · rw [txtF_err he]
      dsimp only
      refine ⟨⟨nm, vl⟩, 0, wk, ?_, fun h => absurd h he⟩
      clear hk hlw wk
      refine fn_of_run (by kernel_rfl) Try.func64 rfl (by kernel_rfl) ?_
      (repeat' first | (refine s_call (g1) (h := ?_)) | (refine p_call (g1) (h := ?_)) | (refine go_ ?_; ((repeat' first | exact True.intro | refine Two.mk ?_ ?_); all_goals intros)) | fail "")
      all_goals first
        | (exact endwA_)
        | skip
  rw [if_neg cC] at hlw ⊢
  by_cases cD : 32 ≤ (s.getD 0 default).toNat ∧ (s.getD 0 default).toNat < 40
  · rw [if_pos cD] at hlw ⊢
    unfold txtF at hlw ⊢
    rw [if_neg nn0'] at hlw ⊢
    have g1 := textOf_fn s 3 (by unfold I64; omega) hs
    have hk := @txtD_ok s 3
    have hl1 := @txtD_len s 3
    generalize txtD s 3 = a at *
    obtain ⟨nm, j, e⟩ := a
    dsimp only at *
    by_cases he : e = 0
    · subst he
      obtain ⟨j, rfl, q1, q2, q3⟩ := hk rfl
      rw [if_neg nn0'] at hlw ⊢
      dsimp only at hlw ⊢
      rw [if_neg nn0'] at hlw ⊢
      rw [Int.toNat_natCast] at hlw ⊢
      have hdl : (s.drop j).length = s.length - j := List.length_drop
      have et : (s.take s.length).drop j = s.drop j := by rw [List.take_length]
      have g2 := textOf_fn (s.drop j) 7 (by unfold I64; omega) (by omega)
      have hk2 := @txtD_ok (s.drop j) 7
      have hl2 := @txtD_len (s.drop j) 7
      generalize txtD (s.drop j) 7 = a at *
      obtain ⟨v2, i, e⟩ := a
      dsimp only at *
      have wf2 : wfField ⟨nm, v2⟩ := by unfold wfField; dsimp only; omega
      by_cases he : e = 0
      · subst he
        obtain ⟨i, rfl, p1, p2, p3⟩ := hk2 rfl
        rw [if_neg nn0']
        dsimp only
        rw [Int.toNat_natCast]
        refine ⟨⟨nm, v2⟩, (j : Int) + i, wf2, ?_, fun _ => ⟨rfl, j + i, by push_cast; rfl, by rw [List.drop_drop], by omega, by omega⟩⟩
        clear hk hk2 hlw
        refine fn_of_run (by kernel_rfl) Try.func64 rfl (by kernel_rfl) ?_
        (repeat' first | (refine s_call (g1) (h := ?_)) | (refine p_call (g1) (h := ?_)) | (refine s_call (g2) (h := ?_)) | (refine p_call (g2) (h := ?_)) | (refine s_slice (r := s.drop j) (j) (s.length) ?_ ?_ ?_ ?_ ?_ (h := ?_); (focus (first | rfl | (simp only [Option.getD_some, Option.getD_none, List.length_map]; omega))); (focus (first | rfl | (simp only [Option.getD_some, Option.getD_none, List.length_map]; omega))); (focus omega); (focus omega); (focus (first | with_reducible rfl | assumption | (simp; done)))) | (refine p_slice (r := s.drop j) (j) (s.length) ?_ ?_ ?_ ?_ ?_ (h := ?_); (focus (first | rfl | (simp only [Option.getD_some, Option.getD_none, List.length_map]; omega))); (focus (first | rfl | (simp only [Option.getD_some, Option.getD_none, List.length_map]; omega))); (focus omega); (focus omega); (focus (first | with_reducible rfl | assumption | (simp; done)))) | (refine s_slice_str (r := s.drop j) (j) (s.length) ?_ ?_ ?_ ?_ ?_ (h := ?_); (focus (first | rfl | (simp only [Option.getD_some, Option.getD_none, List.length_map]; omega))); (focus (first | rfl | (simp only [Option.getD_some, Option.getD_none, List.length_map]; omega))); (focus omega); (focus omega); (focus (first | with_reducible rfl | assumption | (simp; done)))) | (refine p_slice_str (r := s.drop j) (j) (s.length) ?_ ?_ ?_ ?_ ?_ (h := ?_); (focus (first | rfl | (simp only [Option.getD_some, Option.getD_none, List.length_map]; omega))); (focus (first | rfl | (simp only [Option.getD_some, Option.getD_none, List.length_map]; omega))); (focus omega); (focus omega); (focus (first | with_reducible rfl | assumption | (simp; done)))) | (refine s_sliceO (r := s.drop j) (j) (s.length) ?_ ?_ ?_ ?_ ?_ (h := ?_); (focus (first | rfl | (simp only [Option.getD_some, Option.getD_none, List.length_map]; omega))); (focus (first | rfl | (simp only [Option.getD_some, Option.getD_none, List.length_map]; omega))); (focus omega); (focus omega); (focus (first | with_reducible rfl | assumption | (simp; done)))) | (refine s_sliceM (r := s.drop j) (j) (s.length) ?_ ?_ ?_ ?_ ?_ (h := ?_); (focus (first | rfl | (simp only [Option.getD_some, Option.getD_none, List.length_map]; omega))); (focus (first | rfl | (simp only [Option.getD_some, Option.getD_none, List.length_map]; omega))); (focus omega); (focus omega); (focus (first | with_reducible rfl | assumption | (simp; done)))) | (refine go_ ?_; ((repeat' first | exact True.intro | refine Two.mk ?_ ?_); all_goals intros)) | fail "")
        all_goals first
          | (exact endwA_)
          | skip
      · rw [if_pos he]
        dsimp only
        refine ⟨⟨nm, v2⟩, IntKind.i64.wrap ((j : Int) + i), wf2, ?_, fun h => absurd h he⟩
        clear hk hk2 hlw
        refine fn_of_run (by kernel_rfl) Try.func64 rfl (by kernel_rfl) ?_
        (repeat' first | (refine s_call (g1) (h := ?_)) | (refine p_call (g1) (h := ?_)) | (refine s_call (g2) (h := ?_)) | (refine p_call (g2) (h := ?_)) | (refine s_slice (r := s.drop j) (j) (s.length) ?_ ?_ ?_ ?_ ?_ (h := ?_); (focus (first | rfl | (simp only [Option.getD_some, Option.getD_none, List.length_map]; omega))); (focus (first | rfl | (simp only [Option.getD_some, Option.getD_none, List.length_map]; omega))); (focus omega); (focus omega); (focus (first | with_reducible rfl | assumption | (simp; done)))) | (refine p_slice (r := s.drop j) (j) (s.length) ?_ ?_ ?_ ?_ ?_ (h := ?_); (focus (first | rfl | (simp only [Option.getD_some, Option.getD_none, List.length_map]; omega))); (focus (first | rfl | (simp only [Option.getD_some, Option.getD_none, List.length_map]; omega))); (focus omega); (focus omega); (focus (first | with_reducible rfl | assumption | (simp; done)))) | (refine s_slice_str (r := s.drop j) (j) (s.length) ?_ ?_ ?_ ?_ ?_ (h := ?_); (focus (first | rfl | (simp only [Option.getD_some, Option.getD_none, List.length_map]; omega))); (focus (first | rfl | (simp only [Option.getD_some, Option.getD_none, List.length_map]; omega))); (focus omega); (focus omega); (focus (first | with_reducible rfl | assumption | (simp; done)))) | (refine p_slice_str (r := s.drop j) (j) (s.length) ?_ ?_ ?_ ?_ ?_ (h := ?_); (focus (first | rfl | (simp only [Option.getD_some, Option.getD_none, List.length_map]; omega))); (focus (first | rfl | (simp only [Option.getD_some, Option.getD_none, List.length_map]; omega))); (focus omega); (focus omega); (focus (first | with_reducible rfl | assumption | (simp; done)))) | (refine s_sliceO (r := s.drop j) (j) (s.length) ?_ ?_ ?_ ?_ ?_ (h := ?_); (focus (first | rfl | (simp only [Option.getD_some, Option.getD_none, List.length_map]; omega))); (focus (first | rfl | (simp only [Option.getD_some, Option.getD_none, List.length_map]; omega))); (focus omega); (focus omega); (focus (first | with_reducible rfl | assumption | (simp; done)))) | (refine s_sliceM (r := s.drop j) (j) (s.length) ?_ ?_ ?_ ?_ ?_ (h := ?_); (focus (first | rfl | (simp only [Option.getD_some, Option.getD_none, List.length_map]; omega))); (focus (first | rfl | (simp only [Option.getD_some, Option.getD_none, List.length_map]; omega))); (focus omega); (focus omega); (focus (first | with_reducible rfl | assumption | (simp; done)))) | (refine go_ ?_; ((repeat' first | exact True.intro | refine Two.mk ?_ ?_); all_goals intros)) | fail "")
        all_goals first
          | (exact endwA_)
          | skip
    · rw [if_pos he]
      dsimp only
      rw [if_pos he]
      dsimp only
      refine ⟨⟨nm, []⟩, 0, by unfold wfField; dsimp only; simp; omega, ?_, fun h => absurd h he⟩
      clear hk hlw
      refine fn_of_run (by kernel_rfl) Try.func64 rfl (by kernel_rfl) ?_
      (repeat' first | (refine s_call (g1) (h := ?_)) | (refine p_call (g1) (h := ?_)) | (refine go_ ?_; ((repeat' first | exact True.intro | refine Two.mk ?_ ?_); all_goals intros)) | fail "")
      all_goals first
        | (exact endwA_)
        | skip
  rw [if_neg cD]
  refine ⟨⟨[], []⟩, 0, wz, ?_, fun h => (by cases h)⟩
  clear hlw
  refine fn_of_run (by kernel_rfl) Try.func64 rfl (by kernel_rfl) ?_
  (repeat' first | (refine go_ ?_; ((repeat' first | exact True.intro | refine Two.mk ?_ ?_); all_goals intros)) | fail "")
  all_goals first
    | (exact endwA_)
    | skip
end Go.Proofs.Ythpophgcmgdpjaa
