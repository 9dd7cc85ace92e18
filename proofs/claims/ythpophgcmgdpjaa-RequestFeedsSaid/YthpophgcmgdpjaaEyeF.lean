/-
  The eye of fields: numbers and texts taken. No condition.
-/
import Derived.Test.YthpophgcmgdpjaaGo
import Derived.Test.YthpophgcmgdpjaaPreD
import Derived.Test.YthpophgcmgdpjaaAbsB
set_option linter.unusedVariables false
set_option linter.unusedSimpArgs false
set_option linter.unusedVariables false
namespace Go.Proofs.Ythpophgcmgdpjaa
set_option maxRecDepth 100000
attribute [local irreducible] Run RunL QStep GStep Fn Less PL FnM

/-- a number taken: it, what is left, and what is wrong -/
def numF (s : List UInt8) (w e : Int) : Int × List UInt8 × Int := if e ≠ 0 then (0, s, e) else if (preD s w).2.2 ≠ 0 then ((preD s w).1, s, (preD s w).2.2) else ((preD s w).1, s.drop (preD s w).2.1.toNat, 0)
/-- a text taken -/
def txtF (s : List UInt8) (w e : Int) : List UInt8 × List UInt8 × Int := if e ≠ 0 then ([], s, e) else if (txtD s w).2.2 ≠ 0 then ((txtD s w).1, s, (txtD s w).2.2) else ((txtD s w).1, s.drop (txtD s w).2.1.toNat, 0)
theorem txtD_ok {l : List UInt8} {w : Int} (h : (txtD l w).2.2 = 0) : ∃ k : Nat, (txtD l w).2.1 = k ∧ 1 ≤ k ∧ k ≤ l.length ∧ (txtD l w).1.length ≤ 120 := by
  unfold txtD at *
  split at h
  · contradiction
  · rename_i h1
    rw [if_neg h1]
    split at h
    · simp at h
    · rename_i h2
      rw [if_neg h2]
      split at h
      · simp at h
      · rename_i h3
        rw [if_neg h3]
        rcases hp : preD l w with ⟨a, b, e⟩
        rw [hp] at h1 h2 h3
        dsimp only at h1 h2 h3 ⊢
        have he : e = 0 := by omega
        subst he
        obtain ⟨n, k, rfl, rfl, hn, hk, hkl⟩ := preD_ok hp
        refine ⟨k + n, by push_cast; rfl, by omega, by omega, ?_⟩
        simp only [List.length_drop, List.length_take]
        omega
theorem txtD_len {l : List UInt8} {w : Int} : (txtD l w).1.length ≤ 120 := by
  by_cases h : (txtD l w).2.2 = 0
  · obtain ⟨k, _, _, _, h4⟩ := txtD_ok h; exact h4
  · unfold txtD at *
    split
    · simp
    · rename_i h1
      rw [if_neg h1] at h
      split
      · simp
      · rename_i h2
        rw [if_neg h2] at h
        split
        · simp
        · rename_i h3
          rw [if_neg h3] at h
          exact absurd rfl h
theorem stepF_err (s : List UInt8) (k e : Int) (he : ¬ e = 0) : FnM Try.prog 140 [.ptr 0 0 0 0, .lit (.int .i64 k), .lit (.int .i64 e)] [(0, some (.box 110 [.ro (s.map encB), .lit (.int .i64 0)]))] 1 (.tup []) [(0, some (.box 110 [.ro (s.map encB), .lit (.int .i64 e)]))] 1 := by
  refine fnm_of_run (by kernel_rfl) Try.func140 rfl (by kernel_rfl) (by rfl) ?_
  (repeat' first | (refine go_ ?_; ((repeat' first | exact True.intro | refine Two.mk ?_ ?_); all_goals intros)) | fail "")
  all_goals (exact endmA_)
theorem stepF_ok (s : List UInt8) (k : Nat) (hk : k ≤ s.length) (hs : s.length ≤ 1000000000000000) : FnM Try.prog 140 [.ptr 0 0 0 0, .lit (.int .i64 k), .lit (.int .i64 0)] [(0, some (.box 110 [.ro (s.map encB), .lit (.int .i64 0)]))] 1 (.tup []) [(0, some (.box 110 [.ro ((s.drop k).map encB), .lit (.int .i64 0)]))] 1 := by
  have et : (s.take s.length).drop k = s.drop k := by rw [List.take_length]
  refine fnm_of_run (by kernel_rfl) Try.func140 rfl (by kernel_rfl) (by rfl) ?_
  (repeat' first | (refine s_slice (r := s.drop k) (k) (s.length) ?_ ?_ ?_ ?_ ?_ (h := ?_); (focus (first | rfl | (simp only [Option.getD_some, Option.getD_none, List.length_map]; omega))); (focus (first | rfl | (simp only [Option.getD_some, Option.getD_none, List.length_map]; omega))); (focus omega); (focus omega); (focus (first | with_reducible rfl | assumption | (simp; done)))) | (refine p_slice (r := s.drop k) (k) (s.length) ?_ ?_ ?_ ?_ ?_ (h := ?_); (focus (first | rfl | (simp only [Option.getD_some, Option.getD_none, List.length_map]; omega))); (focus (first | rfl | (simp only [Option.getD_some, Option.getD_none, List.length_map]; omega))); (focus omega); (focus omega); (focus (first | with_reducible rfl | assumption | (simp; done)))) | (refine s_slice_str (r := s.drop k) (k) (s.length) ?_ ?_ ?_ ?_ ?_ (h := ?_); (focus (first | rfl | (simp only [Option.getD_some, Option.getD_none, List.length_map]; omega))); (focus (first | rfl | (simp only [Option.getD_some, Option.getD_none, List.length_map]; omega))); (focus omega); (focus omega); (focus (first | with_reducible rfl | assumption | (simp; done)))) | (refine p_slice_str (r := s.drop k) (k) (s.length) ?_ ?_ ?_ ?_ ?_ (h := ?_); (focus (first | rfl | (simp only [Option.getD_some, Option.getD_none, List.length_map]; omega))); (focus (first | rfl | (simp only [Option.getD_some, Option.getD_none, List.length_map]; omega))); (focus omega); (focus omega); (focus (first | with_reducible rfl | assumption | (simp; done)))) | (refine s_sliceO (r := s.drop k) (k) (s.length) ?_ ?_ ?_ ?_ ?_ (h := ?_); (focus (first | rfl | (simp only [Option.getD_some, Option.getD_none, List.length_map]; omega))); (focus (first | rfl | (simp only [Option.getD_some, Option.getD_none, List.length_map]; omega))); (focus omega); (focus omega); (focus (first | with_reducible rfl | assumption | (simp; done)))) | (refine s_sliceM (r := s.drop k) (k) (s.length) ?_ ?_ ?_ ?_ ?_ (h := ?_); (focus (first | rfl | (simp only [Option.getD_some, Option.getD_none, List.length_map]; omega))); (focus (first | rfl | (simp only [Option.getD_some, Option.getD_none, List.length_map]; omega))); (focus omega); (focus omega); (focus (first | with_reducible rfl | assumption | (simp; done)))) | (refine go_ ?_; ((repeat' first | exact True.intro | refine Two.mk ?_ ?_); all_goals intros)) | fail "")
  all_goals (exact endmA_)
theorem numberF_fnm (s : List UInt8) (w e : Int) (hs : s.length ≤ 1000000000000000) : FnM Try.prog 60 [.ptr 0 0 0 0, .lit (.int .i64 w)] [(0, some (.box 110 [.ro (s.map encB), .lit (.int .i64 e)]))] 1 (.lit (.int .i64 (numF s w e).1)) [(0, some (.box 110 [.ro ((numF s w e).2.1.map encB), .lit (.int .i64 (numF s w e).2.2)]))] 1 := by
  have h1 := prefixDecode_fn s w hs
  unfold numF
  by_cases he : e = 0
  · subst he
    rw [if_neg (by omega)]
    rcases hp : preD s w with ⟨a, b, e⟩
    rw [hp] at h1
    dsimp only at h1 ⊢
    by_cases he : e = 0
    · subst he
      obtain ⟨n, k, rfl, rfl, hn, hk, hkl⟩ := preD_ok hp
      have h2 := stepF_ok s k hkl hs
      rw [if_neg (by omega), Int.toNat_natCast]
      refine fnm_of_run (by kernel_rfl) Try.func60 rfl (by kernel_rfl) (by rfl) ?_
      (repeat' first | (refine s_call (h1) (h := ?_)) | (refine p_call (h1) (h := ?_)) | (refine s_callM [0] (h2) (h := ?_)) | (refine s_callM0 [0] (h2) (h := ?_)) | (refine p_callM [0] (h2) (h := ?_)) | (refine go_ ?_; ((repeat' first | exact True.intro | refine Two.mk ?_ ?_); all_goals intros)) | fail "")
      all_goals (exact endmA_)
    · have h2 := stepF_err s b e he
      rw [if_pos he]
      refine fnm_of_run (by kernel_rfl) Try.func60 rfl (by kernel_rfl) (by rfl) ?_
      (repeat' first | (refine s_call (h1) (h := ?_)) | (refine p_call (h1) (h := ?_)) | (refine s_callM [0] (h2) (h := ?_)) | (refine s_callM0 [0] (h2) (h := ?_)) | (refine p_callM [0] (h2) (h := ?_)) | (refine go_ ?_; ((repeat' first | exact True.intro | refine Two.mk ?_ ?_); all_goals intros)) | fail "")
      all_goals (exact endmA_)
  · rw [if_pos he]
    refine fnm_of_run (by kernel_rfl) Try.func60 rfl (by kernel_rfl) (by rfl) ?_
    (repeat' first | (refine go_ ?_; ((repeat' first | exact True.intro | refine Two.mk ?_ ?_); all_goals intros)) | fail "")
    all_goals (exact endmA_)
theorem textF_fnm (s : List UInt8) (w e : Int) (hs : s.length ≤ 1000000000000000) : FnM Try.prog 143 [.ptr 0 0 0 0, .lit (.int .i64 w)] [(0, some (.box 110 [.ro (s.map encB), .lit (.int .i64 e)]))] 1 (.lit (.string (strB (txtF s w e).1))) [(0, some (.box 110 [.ro ((txtF s w e).2.1.map encB), .lit (.int .i64 (txtF s w e).2.2)]))] 1 := by
  have h1 := prefixRead_fn s w hs
  unfold txtF
  by_cases he : e = 0
  · subst he
    rw [if_neg (by omega)]
    have hk := @txtD_ok s w
    rcases hp : txtD s w with ⟨a, b, e⟩
    rw [hp] at h1 hk
    dsimp only at h1 hk ⊢
    by_cases he : e = 0
    · subst he
      obtain ⟨k, rfl, hk1, hk2, _⟩ := hk rfl
      have h2 := stepF_ok s k hk2 hs
      rw [if_neg (by omega), Int.toNat_natCast]
      clear hk
      refine fnm_of_run (by kernel_rfl) Try.func143 rfl (by kernel_rfl) (by rfl) ?_
      (repeat' first | (refine s_call (h1) (h := ?_)) | (refine p_call (h1) (h := ?_)) | (refine s_callM [0] (h2) (h := ?_)) | (refine s_callM0 [0] (h2) (h := ?_)) | (refine p_callM [0] (h2) (h := ?_)) | (refine go_ ?_; ((repeat' first | exact True.intro | refine Two.mk ?_ ?_); all_goals intros)) | fail "")
      all_goals (exact endmA_)
    · have h2 := stepF_err s b e he
      rw [if_pos he]
      clear hk
      refine fnm_of_run (by kernel_rfl) Try.func143 rfl (by kernel_rfl) (by rfl) ?_
      (repeat' first | (refine s_call (h1) (h := ?_)) | (refine p_call (h1) (h := ?_)) | (refine s_callM [0] (h2) (h := ?_)) | (refine s_callM0 [0] (h2) (h := ?_)) | (refine p_callM [0] (h2) (h := ?_)) | (refine go_ ?_; ((repeat' first | exact True.intro | refine Two.mk ?_ ?_); all_goals intros)) | fail "")
      all_goals (exact endmA_)
  · rw [if_pos he]
    refine fnm_of_run (by kernel_rfl) Try.func143 rfl (by kernel_rfl) (by rfl) ?_
    (repeat' first | (refine go_ ?_; ((repeat' first | exact True.intro | refine Two.mk ?_ ?_); all_goals intros)) | fail "")
    all_goals (exact endmA_)
end Go.Proofs.Ythpophgcmgdpjaa
