/-
  The eye of frames: numbers and bytes taken. No condition.
-/
import Derived.Test.YthpophgcmgdpjaaGo
import Derived.Test.YthpophgcmgdpjaaVarD
set_option linter.unusedVariables false
set_option linter.unusedSimpArgs false
set_option linter.unusedVariables false
namespace Go.Proofs.Ythpophgcmgdpjaa
set_option maxRecDepth 100000
attribute [local irreducible] Run RunL QStep GStep Fn Less PL FnM

/-- an eye: what is left, how much is used, and what is wrong -/
def encEye (s : List UInt8) (u : Nat) (e : Int) : List V := [.ro (s.map encB), .lit (.int .i64 u), .lit (.int .i64 e)]
theorem fail_ok (s : List UInt8) (u : Nat) (c : Int) : FnM Try.prog 187 [.ptr 0 0 0 0, .lit (.int .i64 c)] [(0, some (.box 267 (encEye s u 0)))] 1 (.tup []) [(0, some (.box 267 (encEye s u c)))] 1 := by
  refine fnm_of_run (by kernel_rfl) Try.func187 rfl (by kernel_rfl) (by rfl) ?_
  (repeat' first | (refine go_ ?_; ((repeat' first | exact True.intro | refine Two.mk ?_ ?_); all_goals intros)) | fail "")
  all_goals (exact endmA_)
theorem fail_err (s : List UInt8) (u : Nat) (e c : Int) (he : ¬ e = 0) : FnM Try.prog 187 [.ptr 0 0 0 0, .lit (.int .i64 c)] [(0, some (.box 267 (encEye s u e)))] 1 (.tup []) [(0, some (.box 267 (encEye s u e)))] 1 := by
  refine fnm_of_run (by kernel_rfl) Try.func187 rfl (by kernel_rfl) (by rfl) ?_
  (repeat' first | (refine go_ ?_; ((repeat' first | exact True.intro | refine Two.mk ?_ ?_); all_goals intros)) | fail "")
  all_goals (exact endmA_)
theorem number_err (s : List UInt8) (u : Nat) (e : Int) (he : ¬ e = 0) : FnM Try.prog 184 [.ptr 0 0 0 0] [(0, some (.box 267 (encEye s u e)))] 1 (.lit (.int .i64 0)) [(0, some (.box 267 (encEye s u e)))] 1 := by
  refine fnm_of_run (by kernel_rfl) Try.func184 rfl (by kernel_rfl) (by rfl) ?_
  (repeat' first | (refine go_ ?_; ((repeat' first | exact True.intro | refine Two.mk ?_ ?_); all_goals intros)) | fail "")
  all_goals (exact endmA_)
theorem number_short (s : List UInt8) (u : Nat) (hs : s.length ≤ 1000000000000000) {n k : Nat} (hv : varD s = (n, k, 4)) : FnM Try.prog 184 [.ptr 0 0 0 0] [(0, some (.box 267 (encEye s u 0)))] 1 (.lit (.int .i64 0)) [(0, some (.box 267 (encEye s u 4)))] 1 := by
  have h1 := varDecode_fn s hs
  rw [hv] at h1
  dsimp only at h1
  have h2 := fail_ok s u 4
  refine fnm_of_run (by kernel_rfl) Try.func184 rfl (by kernel_rfl) (by rfl) ?_
  (repeat' first | (refine s_call (h1) (h := ?_)) | (refine p_call (h1) (h := ?_)) | (refine s_callM [0] (h2) (h := ?_)) | (refine s_callM0 [0] (h2) (h := ?_)) | (refine p_callM [0] (h2) (h := ?_)) | (refine go_ ?_; ((repeat' first | exact True.intro | refine Two.mk ?_ ?_); all_goals intros)) | fail "")
  all_goals (exact endmA_)
theorem number_ok (s : List UInt8) (u : Nat) (hs : s.length ≤ 1000000000000000) (hu : u ≤ 1000000000000000) {n k : Nat} (hv : varD s = (n, k, 0)) : FnM Try.prog 184 [.ptr 0 0 0 0] [(0, some (.box 267 (encEye s u 0)))] 1 (.lit (.int .i64 n)) [(0, some (.box 267 (encEye (s.drop k) (u + k) 0)))] 1 := by
  have h1 := varDecode_fn s hs
  have hq := varD_ok hv
  rw [hv] at h1
  dsimp only at h1
  have hk : 1 ≤ k ∧ k ≤ 8 ∧ k ≤ s.length := by omega
  have hdl : (s.drop k).length = s.length - k := List.length_drop
  have et : (s.take s.length).drop k = s.drop k := by rw [List.take_length]
  have eu : encEye (s.drop k) (u + k) 0 = [.ro ((s.drop k).map encB), .lit (.int .i64 ((u : Int) + (k : Int))), .lit (.int .i64 0)] := rfl
  rw [eu]
  clear eu hv hq
  refine fnm_of_run (by kernel_rfl) Try.func184 rfl (by kernel_rfl) (by rfl) ?_
  (repeat' first | (refine s_call (h1) (h := ?_)) | (refine p_call (h1) (h := ?_)) | (refine s_slice (r := s.drop k) (k) (s.length) ?_ ?_ ?_ ?_ ?_ (h := ?_); (focus (first | rfl | (simp only [Option.getD_some, Option.getD_none, List.length_map]; omega))); (focus (first | rfl | (simp only [Option.getD_some, Option.getD_none, List.length_map]; omega))); (focus omega); (focus omega); (focus (first | with_reducible rfl | assumption | (simp; done)))) | (refine p_slice (r := s.drop k) (k) (s.length) ?_ ?_ ?_ ?_ ?_ (h := ?_); (focus (first | rfl | (simp only [Option.getD_some, Option.getD_none, List.length_map]; omega))); (focus (first | rfl | (simp only [Option.getD_some, Option.getD_none, List.length_map]; omega))); (focus omega); (focus omega); (focus (first | with_reducible rfl | assumption | (simp; done)))) | (refine s_slice_str (r := s.drop k) (k) (s.length) ?_ ?_ ?_ ?_ ?_ (h := ?_); (focus (first | rfl | (simp only [Option.getD_some, Option.getD_none, List.length_map]; omega))); (focus (first | rfl | (simp only [Option.getD_some, Option.getD_none, List.length_map]; omega))); (focus omega); (focus omega); (focus (first | with_reducible rfl | assumption | (simp; done)))) | (refine p_slice_str (r := s.drop k) (k) (s.length) ?_ ?_ ?_ ?_ ?_ (h := ?_); (focus (first | rfl | (simp only [Option.getD_some, Option.getD_none, List.length_map]; omega))); (focus (first | rfl | (simp only [Option.getD_some, Option.getD_none, List.length_map]; omega))); (focus omega); (focus omega); (focus (first | with_reducible rfl | assumption | (simp; done)))) | (refine s_sliceO (r := s.drop k) (k) (s.length) ?_ ?_ ?_ ?_ ?_ (h := ?_); (focus (first | rfl | (simp only [Option.getD_some, Option.getD_none, List.length_map]; omega))); (focus (first | rfl | (simp only [Option.getD_some, Option.getD_none, List.length_map]; omega))); (focus omega); (focus omega); (focus (first | with_reducible rfl | assumption | (simp; done)))) | (refine s_sliceM (r := s.drop k) (k) (s.length) ?_ ?_ ?_ ?_ ?_ (h := ?_); (focus (first | rfl | (simp only [Option.getD_some, Option.getD_none, List.length_map]; omega))); (focus (first | rfl | (simp only [Option.getD_some, Option.getD_none, List.length_map]; omega))); (focus omega); (focus omega); (focus (first | with_reducible rfl | assumption | (simp; done)))) | (refine go_ ?_; ((repeat' first | exact True.intro | refine Two.mk ?_ ?_); all_goals intros)) | fail "")
  all_goals (exact endmA_)
theorem take_err (s : List UInt8) (u n : Nat) (e : Int) (he : ¬ e = 0) : FnM Try.prog 186 [.ptr 0 0 0 0, .lit (.int .i64 n)] [(0, some (.box 267 (encEye s u e)))] 1 (.ro []) [(0, some (.box 267 (encEye s u e)))] 1 := by
  refine fnm_of_run (by kernel_rfl) Try.func186 rfl (by kernel_rfl) (by rfl) ?_
  (repeat' first | (refine go_ ?_; ((repeat' first | exact True.intro | refine Two.mk ?_ ?_); all_goals intros)) | fail "")
  all_goals (exact endmA_)
theorem take_short (s : List UInt8) (u n : Nat) (hn : s.length < n) : FnM Try.prog 186 [.ptr 0 0 0 0, .lit (.int .i64 n)] [(0, some (.box 267 (encEye s u 0)))] 1 (.ro []) [(0, some (.box 267 (encEye s u 4)))] 1 := by
  have h2 := fail_ok s u 4
  refine fnm_of_run (by kernel_rfl) Try.func186 rfl (by kernel_rfl) (by rfl) ?_
  (repeat' first | (refine s_callM [0] (h2) (h := ?_)) | (refine s_callM0 [0] (h2) (h := ?_)) | (refine p_callM [0] (h2) (h := ?_)) | (refine go_ ?_; ((repeat' first | exact True.intro | refine Two.mk ?_ ?_); all_goals intros)) | fail "")
  all_goals (exact endmA_)
theorem take_ok (s : List UInt8) (u n : Nat) (hs : s.length ≤ 1000000000000000) (hu : u ≤ 1000000000000000) (hn : n ≤ s.length) : FnM Try.prog 186 [.ptr 0 0 0 0, .lit (.int .i64 n)] [(0, some (.box 267 (encEye s u 0)))] 1 (.ro ((s.take n).map encB)) [(0, some (.box 267 (encEye (s.drop n) (u + n) 0)))] 1 := by
  have et : (s.take s.length).drop n = s.drop n := by rw [List.take_length]
  have e0 : (s.take n).drop 0 = s.take n := List.drop_zero
  have eu : encEye (s.drop n) (u + n) 0 = [.ro ((s.drop n).map encB), .lit (.int .i64 ((u : Int) + (n : Int))), .lit (.int .i64 0)] := rfl
  rw [eu]
  clear eu
  refine fnm_of_run (by kernel_rfl) Try.func186 rfl (by kernel_rfl) (by rfl) ?_
  (repeat' first | (refine s_slice (r := s.take n) (0) (n) ?_ ?_ ?_ ?_ ?_ (h := ?_); (focus (first | rfl | (simp only [Option.getD_some, Option.getD_none, List.length_map]; omega))); (focus (first | rfl | (simp only [Option.getD_some, Option.getD_none, List.length_map]; omega))); (focus omega); (focus omega); (focus (first | with_reducible rfl | assumption | (simp; done)))) | (refine p_slice (r := s.take n) (0) (n) ?_ ?_ ?_ ?_ ?_ (h := ?_); (focus (first | rfl | (simp only [Option.getD_some, Option.getD_none, List.length_map]; omega))); (focus (first | rfl | (simp only [Option.getD_some, Option.getD_none, List.length_map]; omega))); (focus omega); (focus omega); (focus (first | with_reducible rfl | assumption | (simp; done)))) | (refine s_slice_str (r := s.take n) (0) (n) ?_ ?_ ?_ ?_ ?_ (h := ?_); (focus (first | rfl | (simp only [Option.getD_some, Option.getD_none, List.length_map]; omega))); (focus (first | rfl | (simp only [Option.getD_some, Option.getD_none, List.length_map]; omega))); (focus omega); (focus omega); (focus (first | with_reducible rfl | assumption | (simp; done)))) | (refine p_slice_str (r := s.take n) (0) (n) ?_ ?_ ?_ ?_ ?_ (h := ?_); (focus (first | rfl | (simp only [Option.getD_some, Option.getD_none, List.length_map]; omega))); (focus (first | rfl | (simp only [Option.getD_some, Option.getD_none, List.length_map]; omega))); (focus omega); (focus omega); (focus (first | with_reducible rfl | assumption | (simp; done)))) | (refine s_sliceO (r := s.take n) (0) (n) ?_ ?_ ?_ ?_ ?_ (h := ?_); (focus (first | rfl | (simp only [Option.getD_some, Option.getD_none, List.length_map]; omega))); (focus (first | rfl | (simp only [Option.getD_some, Option.getD_none, List.length_map]; omega))); (focus omega); (focus omega); (focus (first | with_reducible rfl | assumption | (simp; done)))) | (refine s_sliceM (r := s.take n) (0) (n) ?_ ?_ ?_ ?_ ?_ (h := ?_); (focus (first | rfl | (simp only [Option.getD_some, Option.getD_none, List.length_map]; omega))); (focus (first | rfl | (simp only [Option.getD_some, Option.getD_none, List.length_map]; omega))); (focus omega); (focus omega); (focus (first | with_reducible rfl | assumption | (simp; done)))) | (refine s_slice (r := s.drop n) (n) (s.length) ?_ ?_ ?_ ?_ ?_ (h := ?_); (focus (first | rfl | (simp only [Option.getD_some, Option.getD_none, List.length_map]; omega))); (focus (first | rfl | (simp only [Option.getD_some, Option.getD_none, List.length_map]; omega))); (focus omega); (focus omega); (focus (first | with_reducible rfl | assumption | (simp; done)))) | (refine p_slice (r := s.drop n) (n) (s.length) ?_ ?_ ?_ ?_ ?_ (h := ?_); (focus (first | rfl | (simp only [Option.getD_some, Option.getD_none, List.length_map]; omega))); (focus (first | rfl | (simp only [Option.getD_some, Option.getD_none, List.length_map]; omega))); (focus omega); (focus omega); (focus (first | with_reducible rfl | assumption | (simp; done)))) | (refine s_slice_str (r := s.drop n) (n) (s.length) ?_ ?_ ?_ ?_ ?_ (h := ?_); (focus (first | rfl | (simp only [Option.getD_some, Option.getD_none, List.length_map]; omega))); (focus (first | rfl | (simp only [Option.getD_some, Option.getD_none, List.length_map]; omega))); (focus omega); (focus omega); (focus (first | with_reducible rfl | assumption | (simp; done)))) | (refine p_slice_str (r := s.drop n) (n) (s.length) ?_ ?_ ?_ ?_ ?_ (h := ?_); (focus (first | rfl | (simp only [Option.getD_some, Option.getD_none, List.length_map]; omega))); (focus (first | rfl | (simp only [Option.getD_some, Option.getD_none, List.length_map]; omega))); (focus omega); (focus omega); (focus (first | with_reducible rfl | assumption | (simp; done)))) | (refine s_sliceO (r := s.drop n) (n) (s.length) ?_ ?_ ?_ ?_ ?_ (h := ?_); (focus (first | rfl | (simp only [Option.getD_some, Option.getD_none, List.length_map]; omega))); (focus (first | rfl | (simp only [Option.getD_some, Option.getD_none, List.length_map]; omega))); (focus omega); (focus omega); (focus (first | with_reducible rfl | assumption | (simp; done)))) | (refine s_sliceM (r := s.drop n) (n) (s.length) ?_ ?_ ?_ ?_ ?_ (h := ?_); (focus (first | rfl | (simp only [Option.getD_some, Option.getD_none, List.length_map]; omega))); (focus (first | rfl | (simp only [Option.getD_some, Option.getD_none, List.length_map]; omega))); (focus omega); (focus omega); (focus (first | with_reducible rfl | assumption | (simp; done)))) | (refine go_ ?_; ((repeat' first | exact True.intro | refine Two.mk ?_ ?_); all_goals intros)) | fail "")
  all_goals (exact endmA_)
end Go.Proofs.Ythpophgcmgdpjaa
