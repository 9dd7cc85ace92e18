/-
  The reference's big. No condition.
-/
import Derived.Test.YthpophgcmgdpjaaGo
import Derived.Test.YthpophgcmgdpjaaByt
import Derived.Test.YthpophgcmgdpjaaProg
set_option linter.unusedVariables false
set_option linter.unusedSimpArgs false
set_option linter.unusedVariables false
namespace Go.Proofs.Ythpophgcmgdpjaa
set_option maxRecDepth 100000
attribute [local irreducible] Run RunL QStep GStep Fn Less PL FnM

theorem big_fn (n size : Nat) (hs : size ≤ 100) : Fn Try.prog 110 [.lit (.int .u64 n), .lit (.int .i64 size)] (.lit (.string (strB (bigB n size)))) := by
  refine fn_of_run (by kernel_rfl) Try.func110 rfl (by kernel_rfl) ?_
  (repeat' first | (refine go_ ?_; ((repeat' first | exact True.intro | refine Two.mk ?_ ?_); all_goals intros)) | fail "")
  refine r_for (fun k : Nat => ⟨[(0, .lit (.int .u64 ((n / 256 ^ k : Nat) : Int))), (5, .lit (.string (strB (bigB n k)))), (6, .lit (.int .i64 size)), (7, .lit (.int .i64 k))], [], 0, Try.f110.ntmps⟩)
    (fun k => k ≤ size) (fun k => size - k) 0 (by omega) (by (exact lessA_)) ?_
  intro k hk
  have hl := bigB_length n k
  have e := shr8 n k
  by_cases hkn : k < size
  · (repeat' first | (refine s_bstr (l := [UInt8.ofNat (n / 256 ^ k)]) (hv := ?_) (h := ?_); (focus exact u8_big n k)) | (refine s_sadd (r := bigB n (k + 1)) ?_ ?_ (h := ?_); (focus (first | rfl | (simp; done))); (focus (first | omega | (simp only [List.length_append, List.length_map, List.length_cons, List.length_nil, List.length_take, List.length_drop]; omega)))) | (refine p_sadd (r := bigB n (k + 1)) ?_ ?_ (h := ?_); (focus (first | rfl | (simp; done))); (focus (first | omega | (simp only [List.length_append, List.length_map, List.length_cons, List.length_nil, List.length_take, List.length_drop]; omega)))) | (refine goI_ ?_; ((repeat' first | exact True.intro | refine Two.mk ?_ ?_); all_goals intros)) | refine s_i (h := ?_) | refine s_i (hq := q_index_ro rfl rfl rfl (by first | exact lit0 | exact lit1 | exact lit2 | exact lit3 | rfl) (by simp only [List.length_cons, List.length_nil]; omega) rfl rfl rfl rfl) (h := ?_) | refine p_i (h := ?_) | refine p_ih (h := ?_) | refine s_lit (h := ?_) | refine p_lit (h := ?_) | refine p_lit0 (h := ?_) | refine s_lit0 (h := ?_) | refine s_ixa (h := ?_) | refine s_insert (h := ?_) | (refine s_sadd rfl ?_ (h := ?_); (focus (first | omega | (simp only [List.length_append, List.length_map, List.length_cons, List.length_nil, List.length_take, List.length_drop]; omega)))) | (refine p_sadd rfl ?_ (h := ?_); (focus (first | omega | (simp only [List.length_append, List.length_map, List.length_cons, List.length_nil, List.length_take, List.length_drop]; omega)))) | fail "")
    all_goals (rw [e]; (refine ⟨k + 1, ?_, ?_, ?_⟩; rotate_left 2; (exact lessA_); (focus (omega)); (focus (omega))))
  · have : k = size := by omega
    subst this
    (repeat' first | (refine go_ ?_; ((repeat' first | exact True.intro | refine Two.mk ?_ ?_); all_goals intros)) | fail "")
    all_goals exact ends_ (hr := rfl)

theorem big8_fn (n : Nat) : Fn Try.prog 110 [.lit (.int .u64 n), .lit (.int .i64 8)] (.lit (.string (strB (bigB n 8)))) := big_fn n 8 (by omega)
end Go.Proofs.Ythpophgcmgdpjaa
