/-
  The reference's prefixText; the pen of fields. No condition.
-/
import Derived.Test.YtfdomanbdfekhaaGA
import Derived.Test.YtfdomanbdfekhaaPreE
import Derived.Test.YtfdomanbdfekhaaAbsB
set_option linter.unusedVariables false
set_option linter.unusedSimpArgs false
set_option linter.unusedVariables false
namespace Go.Proofs.Ytfdomanbdfekhaa
set_option maxRecDepth 100000
attribute [local irreducible] Run RunL QStep GStep Fn Less PL FnM

theorem bigB1 (n : Nat) : bigB n 1 = [UInt8.ofNat n] := by simp [bigB]
theorem big1_fn (n : Nat) : Fn Try.prog 74 [.lit (.int .u64 n), .lit (.int .i64 1)] (.lit (.string (strB [UInt8.ofNat n]))) := by
  have := big_fn n 1 (by omega)
  rw [bigB1] at this
  exact this
set_option maxHeartbeats 4000000 in
theorem prefixT_fn (f top n : Nat) (hf : f + top < 256) (hn : n ≤ 4611686018427387903) : Fn Try.prog 41 [.lit (.int .i64 f), .lit (.int .i64 top), .lit (.int .i64 n)] (.lit (.string (strB (preE f top n)))) := by
  unfold preE
  by_cases hnt : n < top
  · rw [if_pos hnt]
    have h1 := big1_fn (f + n)
    rw [show ((f + n : Nat) : Int) = (f : Int) + n by omega] at h1
    refine fn_of_run (by kernel_rfl) Try.func41 rfl (by kernel_rfl) ?_
    (repeat' first | (refine s_call (h1) (h := ?_)) | (refine p_call (h1) (h := ?_)) | (refine go_ ?_; ((repeat' first | exact True.intro | refine Two.mk ?_ ?_); all_goals intros)) | fail "")
    all_goals first
      | (exact endwA_)
      | skip
  · rw [if_neg hnt]
    have h1 := big1_fn (f + top)
    rw [show ((f + top : Nat) : Int) = (f : Int) + top by omega] at h1
    generalize hR : UInt8.ofNat (f + top) :: preTail (n - top) = R
    refine fn_of_run (by kernel_rfl) Try.func41 rfl (by kernel_rfl) ?_
    (repeat' first | (refine s_call (h1) (h := ?_)) | (refine p_call (h1) (h := ?_)) | (refine go_ ?_; ((repeat' first | exact True.intro | refine Two.mk ?_ ?_); all_goals intros)) | fail "")
    refine r_for (fun x : Nat × Nat × List UInt8 => ⟨[(2, .lit (.int .i64 (x.2.1 : Int))), (7, .lit (.string (strB x.2.2)))], [], 0, Try.f41.ntmps⟩)
      (fun x => x.2.2 ++ preTail x.2.1 = R ∧ x.1 ≤ 8 ∧ x.2.1 * 128 ^ x.1 ≤ n ∧ x.2.2.length = x.1 + 1) (fun x => x.2.1) (0, n - top, [UInt8.ofNat (f + top)]) ⟨hR, by simp, by simp, rfl⟩ (by (exact lessA_)) ?_
    clear hR h1
    rintro ⟨k, m, out⟩ ⟨hm, hk, hb, hl⟩
    dsimp only at hm hk hb hl ⊢
    have hmn : m ≤ n := Nat.le_trans (Nat.le_mul_of_pos_right m (Nat.pow_pos (by decide))) hb
    by_cases h128 : m < 128
    · rw [preTail_s h128] at hm
      have h2 := big1_fn m
      (repeat' first | (refine s_call (h2) (h := ?_)) | (refine p_call (h2) (h := ?_)) | (refine s_sadd (r := R) ?_ ?_ (h := ?_); (focus (exact hm)); (focus (first | omega | (simp only [List.length_append, List.length_map, List.length_cons, List.length_nil, List.length_take, List.length_drop]; omega)))) | (refine p_sadd (r := R) ?_ ?_ (h := ?_); (focus (exact hm)); (focus (first | omega | (simp only [List.length_append, List.length_map, List.length_cons, List.length_nil, List.length_take, List.length_drop]; omega)))) | (refine goI_ ?_; ((repeat' first | exact True.intro | refine Two.mk ?_ ?_); all_goals intros)) | refine s_i (h := ?_) | refine s_i (hq := q_index_ro rfl rfl rfl (by first | exact lit0 | exact lit1 | exact lit2 | exact lit3 | rfl) (by simp only [List.length_cons, List.length_nil]; omega) rfl rfl rfl rfl) (h := ?_) | refine p_i (h := ?_) | refine p_ih (h := ?_) | refine s_lit (h := ?_) | refine p_lit (h := ?_) | refine p_lit0 (h := ?_) | refine s_lit0 (h := ?_) | refine s_ixa (h := ?_) | refine s_insert (h := ?_) | (refine s_sadd rfl ?_ (h := ?_); (focus (first | omega | (simp only [List.length_append, List.length_map, List.length_cons, List.length_nil, List.length_take, List.length_drop]; omega)))) | (refine p_sadd rfl ?_ (h := ?_); (focus (first | omega | (simp only [List.length_append, List.length_map, List.length_cons, List.length_nil, List.length_take, List.length_drop]; omega)))) | fail "")
      all_goals first
        | (exact endwA_)
        | skip
    · rw [preTail_l h128] at hm
      obtain ⟨s1, s2⟩ := tail_step hk (by omega) hb hn
      have h2 := big1_fn (128 + m % 128)
      rw [show ((128 + m % 128 : Nat) : Int) = 128 + (m : Int) % 128 by omega] at h2
      (repeat' first | (refine s_call (h2) (h := ?_)) | (refine p_call (h2) (h := ?_)) | (refine s_sadd (r := (out ++ [UInt8.ofNat (128 + m % 128)])) ?_ ?_ (h := ?_); (focus (first | rfl | (simp; done))); (focus (first | omega | (simp only [List.length_append, List.length_map, List.length_cons, List.length_nil, List.length_take, List.length_drop]; omega)))) | (refine p_sadd (r := (out ++ [UInt8.ofNat (128 + m % 128)])) ?_ ?_ (h := ?_); (focus (first | rfl | (simp; done))); (focus (first | omega | (simp only [List.length_append, List.length_map, List.length_cons, List.length_nil, List.length_take, List.length_drop]; omega)))) | (refine goI_ ?_; ((repeat' first | exact True.intro | refine Two.mk ?_ ?_); all_goals intros)) | refine s_i (h := ?_) | refine s_i (hq := q_index_ro rfl rfl rfl (by first | exact lit0 | exact lit1 | exact lit2 | exact lit3 | rfl) (by simp only [List.length_cons, List.length_nil]; omega) rfl rfl rfl rfl) (h := ?_) | refine p_i (h := ?_) | refine p_ih (h := ?_) | refine s_lit (h := ?_) | refine p_lit (h := ?_) | refine p_lit0 (h := ?_) | refine s_lit0 (h := ?_) | refine s_ixa (h := ?_) | refine s_insert (h := ?_) | (refine s_sadd rfl ?_ (h := ?_); (focus (first | omega | (simp only [List.length_append, List.length_map, List.length_cons, List.length_nil, List.length_take, List.length_drop]; omega)))) | (refine p_sadd rfl ?_ (h := ?_); (focus (first | omega | (simp only [List.length_append, List.length_map, List.length_cons, List.length_nil, List.length_take, List.length_drop]; omega)))) | fail "")
      all_goals first
        | (refine ⟨(k + 1, m / 128, out ++ [UInt8.ofNat (128 + m % 128)]), ?_, ?_, ?_⟩; rotate_left 2; (exact lessA_); (focus (dsimp only; omega)); (focus (exact ⟨by rw [← hm]; simp, s1, s2, by simp; omega⟩)))
        | skip
end Go.Proofs.Ytfdomanbdfekhaa
