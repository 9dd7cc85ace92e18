/-
  lock.turned and lock.tag: one answer each. No condition.
-/
import Derived.Test.YtfdomanbdfekhaaGA
import Derived.Test.YtfdomanbdfekhaaGC
set_option linter.unusedVariables false
set_option linter.unusedSimpArgs false
set_option linter.unusedVariables false
namespace Go.Proofs.Ytfdomanbdfekhaa
set_option maxRecDepth 100000
attribute [local irreducible] Run RunL QStep GStep Fn Less PL FnM

set_option maxHeartbeats 1000000 in
theorem turned_fnm (key n : Int) (l : List UInt8) (hl : l.length ≤ 140737488355328) : FnM Try.prog 147 [.lit (.int .u64 key), .lit (.int .i64 n), .ro (l.map encB)] [] 0 (.own 0) [(0, some (.row 5 1 ((turnB key n l).map encB)))] 1 := by
  unfold turnB startV
  refine fnm_of_run (by kernel_rfl) Try.func147 rfl (by kernel_rfl) (by rfl) ?_
  (repeat' first | (refine s_call (mix_fn _) (h := ?_)) | (refine p_call (mix_fn _) (h := ?_)) | (refine s_app (r := l.map encB) ?_ ?_ ?_ ?_ (h := ?_); (focus (first | with_reducible rfl | with_reducible exact List.nil_append _ | with_reducible exact (List.map_append ..).symm | (rw [take_snoc (by assumption), List.map_append]; rfl) | (rw [List.map_append]; rfl) | (simp; done))); (focus (first | exact len_none | exact len_one rfl | exact len_two rfl rfl | exact len_enc (fun _ => rfl))); (focus ((conv => lhs; rhs; whnf); simp only [List.length_map, List.length_append, List.length_cons, List.length_nil, List.length_take]; omega)); (focus (simp only [List.length_map, List.length_append, List.length_cons, List.length_nil, List.length_take]; omega))) | (refine s_app0R (r := l.map encB) ?_ ?_ ?_ ?_ (h := ?_); (focus (first | with_reducible rfl | with_reducible exact List.nil_append _ | with_reducible exact (List.map_append ..).symm | (rw [take_snoc (by assumption), List.map_append]; rfl) | (rw [List.map_append]; rfl) | (simp; done))); (focus (first | exact len_none | exact len_one rfl | exact len_two rfl rfl | exact len_enc (fun _ => rfl))); (focus ((conv => lhs; rhs; whnf); simp only [List.length_map, List.length_append, List.length_cons, List.length_nil, List.length_take]; omega)); (focus (simp only [List.length_map, List.length_append, List.length_cons, List.length_nil, List.length_take]; omega))) | (refine p_app (r := l.map encB) ?_ ?_ ?_ ?_ (h := ?_); (focus (first | with_reducible rfl | with_reducible exact List.nil_append _ | with_reducible exact (List.map_append ..).symm | (rw [take_snoc (by assumption), List.map_append]; rfl) | (rw [List.map_append]; rfl) | (simp; done))); (focus (first | exact len_none | exact len_one rfl | exact len_two rfl rfl | exact len_enc (fun _ => rfl))); (focus ((conv => lhs; rhs; whnf); simp only [List.length_map, List.length_append, List.length_cons, List.length_nil, List.length_take]; omega)); (focus (simp only [List.length_map, List.length_append, List.length_cons, List.length_nil, List.length_take]; omega))) | (refine p_app0R (r := l.map encB) ?_ ?_ ?_ ?_ (h := ?_); (focus (first | with_reducible rfl | with_reducible exact List.nil_append _ | with_reducible exact (List.map_append ..).symm | (rw [take_snoc (by assumption), List.map_append]; rfl) | (rw [List.map_append]; rfl) | (simp; done))); (focus (first | exact len_none | exact len_one rfl | exact len_two rfl rfl | exact len_enc (fun _ => rfl))); (focus ((conv => lhs; rhs; whnf); simp only [List.length_map, List.length_append, List.length_cons, List.length_nil, List.length_take]; omega)); (focus (simp only [List.length_map, List.length_append, List.length_cons, List.length_nil, List.length_take]; omega))) | (refine go_ ?_; ((repeat' first | exact True.intro | refine Two.mk ?_ ?_); all_goals intros)) | fail "")
  generalize mixV (bitsI .xor .u64 key (mixV (IntKind.u64.wrap n))) = st
  refine r_for (fun k : Nat => ⟨[(7, .lit (.int .u64 st)), (8, .own 0), (20, .lit (.int .i64 l.length)), (21, .lit (.int .i64 k))], [(0, some (.row 5 1 ((mixL st l k).map encB)))], 1, Try.f147.ntmps⟩)
    (fun k => k ≤ l.length) (fun k => l.length - k) 0 (by omega) (by rw [mixL0]; (exact lessA_)) ?_
  intro k hk
  have hml := mixL_length (st := st) hk
  by_cases hkn : k < l.length
  · have hg := mixL_get (st := st) hkn
    (repeat' first | (refine s_call (mix_fn _) (h := ?_)) | (refine p_call (mix_fn _) (h := ?_)) | (refine s_set (r := (mixL st l (k + 1)).map encB) ?_ ?_ (h := ?_); (focus (first | omega | (simp only [List.length_map, List.length_append, List.length_take, List.length_drop, List.length_replicate]; omega))); (focus ((exact mixL_set hkn (by rw [turn_val, hg]))))) | (refine p_set (r := (mixL st l (k + 1)).map encB) ?_ ?_ (h := ?_); (focus (first | omega | (simp only [List.length_map, List.length_append, List.length_take, List.length_drop, List.length_replicate]; omega))); (focus ((exact mixL_set hkn (by rw [turn_val, hg]))))) | (refine go_ ?_; ((repeat' first | exact True.intro | refine Two.mk ?_ ?_); all_goals intros)) | fail "")
    all_goals (refine ⟨k + 1, ?_, ?_, ?_⟩; rotate_left 2; (exact lessA_); (focus (omega)); (focus (omega)))
  · have : k = l.length := by omega
    subst this
    rw [mixL_all]
    (repeat' first | (refine go_ ?_; ((repeat' first | exact True.intro | refine Two.mk ?_ ?_); all_goals intros)) | fail "")
    all_goals (exact endmA_)
theorem turned_fn (key n : Int) (l : List UInt8) (hl : l.length ≤ 140737488355328) : Fn Try.prog 147 [.lit (.int .u64 key), .lit (.int .i64 n), .ro (l.map encB)] (.ro ((turnB key n l).map encB)) :=
  fn_of_fnm (fnm_ren (turned_fnm key n l hl) [] rfl rfl trivial)
def encP (p : List UInt8) : List V := [.ro (p.map encB)]
set_option maxHeartbeats 1000000 in
theorem tag_fn (key n : Int) (ps : List (List UInt8)) (hp : ps.length ≤ 1000) (hl : ∀ p, p ∈ ps → p.length ≤ 140737488355328) : Fn Try.prog 148 [.lit (.int .u64 key), .lit (.int .i64 n), .ro (ps.map encP)] (.ro ((tagB key n ps).map encB)) := by
  have hr := tagV_range key n ps
  unfold tagB
  unfold tagV at *
  refine fn_of_run (by kernel_rfl) Try.func148 rfl (by kernel_rfl) ?_
  (repeat' first | (refine s_call (mix_fn _) (h := ?_)) | (refine p_call (mix_fn _) (h := ?_)) | (refine go_ ?_; ((repeat' first | exact True.intro | refine Two.mk ?_ ?_); all_goals intros)) | fail "")
  generalize bitsI .xor .u64 (mixV key) (IntKind.u64.wrap n) = h0 at *
  refine r_for (fun k : Nat => ⟨[(7, .lit (.int .u64 ((ps.take k).foldl tagH h0))), (19, .ro (ps.map encP)), (20, .lit (.int .i64 ps.length)), (21, .lit (.int .i64 k))], [], 0, Try.f148.ntmps⟩)
    (fun k => k ≤ ps.length) (fun k => ps.length - k) 0 (by omega) less_to ?_
  intro k hk
  by_cases hkn : k < ps.length
  · have hb := hl _ (getD_mem hkn)
    have e : (ps.take (k + 1)).foldl tagH h0 = mixV (bitsI .xor .u64 (hashB ((ps.take k).foldl tagH h0) (ps.getD k default)) (((ps.getD k default).length * 256 : Nat) : Int)) := by rw [take_snoc hkn, List.foldl_append]; rfl
    generalize hH : (ps.take k).foldl tagH h0 = H at e ⊢
    generalize hB : ps.getD k default = b at hb e ⊢
    have e8 : IntKind.u64.wrap ((b.length : Int) * 2 ^ min (8 : Int).toNat IntKind.u64.bits) = ((b.length * 256 : Nat) : Int) := by
      rw [show (2 : Int) ^ min (8 : Int).toNat IntKind.u64.bits = 256 from rfl, IntKind.wrap_u64]; omega
    (repeat' first | (refine go_ ?_; ((repeat' first | exact True.intro | refine Two.mk ?_ ?_); all_goals intros)) | fail "")
    rw [hB]
    refine r_for (fun j : Nat => ⟨[(7, .lit (.int .u64 (hashB H (b.take j)))), (9, .ro (b.map encB)), (25, .ro (b.map encB)), (26, .lit (.int .i64 b.length)), (27, .lit (.int .i64 j)), (19, .ro (ps.map encP)), (20, .lit (.int .i64 ps.length)), (21, .lit (.int .i64 k))], [], 0, Try.f148.ntmps⟩)
      (fun j => j ≤ b.length) (fun j => b.length - j) 0 (by omega) less_to ?_
    intro j hj
    by_cases hjb : j < b.length
    · have hc := (b.getD j default).toNat_lt
      have e2 : hashB H (b.take (j + 1)) = mixV (bitsI .xor .u64 (hashB H (b.take j)) ((b.getD j default).toNat : Int)) := by rw [take_snoc hjb, hashB_snoc]
      (repeat' first | (refine s_call (mix_fn _) (h := ?_)) | (refine p_call (mix_fn _) (h := ?_)) | (refine go_ ?_; ((repeat' first | exact True.intro | refine Two.mk ?_ ?_); all_goals intros)) | fail "")
      all_goals (refine ⟨j + 1, ?_, ?_, ?_⟩; rotate_left 2; (exact lessA_); (focus (omega)); (focus (omega)))
    · have : j = b.length := by omega
      subst this
      rw [List.take_length]
      (repeat' first | (refine s_call (mix_fn _) (h := ?_)) | (refine p_call (mix_fn _) (h := ?_)) | (refine go_ ?_; ((repeat' first | exact True.intro | refine Two.mk ?_ ?_); all_goals intros)) | fail "")
      all_goals (rw [e8, ← e]; (refine ⟨k + 1, ?_, ?_, ?_⟩; rotate_left 2; (exact lessA_); (focus (omega)); (focus (omega))))
  · have : k = ps.length := by omega
    subst this
    rw [List.take_length]
    generalize ps.foldl tagH h0 = x at *
    obtain ⟨m, rfl⟩ := Int.eq_ofNat_of_zero_le hr.1
    rw [Int.toNat_natCast]
    have hl8 := bigB_length m 8
    (repeat' first | (refine s_make (8) ?_ ?_ ?_ ?_ (h := ?_); (focus (first | rfl | omega)); (focus (first | rfl | omega)); (focus (first | exact Nat.le_of_ble_eq_true rfl | ((conv => lhs; lhs; whnf); simp only [Nat.one_mul]; omega))); (focus omega)) | (refine go_ ?_; ((repeat' first | exact True.intro | refine Two.mk ?_ ?_); all_goals intros)) | fail "")
    rw [← fillB0 (bigB m 8) 8]
    refine r_for (fun k : Nat => ⟨[(7, .lit (.int .u64 m)), (12, .own 0), (47, .lit (.int .i64 8)), (48, .lit (.int .i64 k))], [(0, some (.row 5 1 (fillB (bigB m 8) 8 k)))], 1, Try.f148.ntmps⟩)
      (fun k => k ≤ 8) (fun k => 8 - k) 0 (by omega) less_to ?_
    intro k hk
    have hf := fillB_length hl8 hk
    by_cases hkn : k < 8
    · have hs : (fillB (bigB m 8) 8 k).set k [.lit (.int .u8 (IntKind.u8.wrap ((m : Int).fdiv (2 ^ min (56 - 8 * (k : Int)).toNat IntKind.u64.bits))))] = fillB (bigB m 8) 8 (k + 1) := by
        refine fillB_set hl8 hkn ?_
        rw [bigB_get m 8 k hkn, encB_ofNat, show min (56 - 8 * (k : Int)).toNat IntKind.u64.bits = 8 * (7 - k) by (show min (56 - 8 * (k : Int)).toNat 64 = _; omega), fdiv_two_pow, Nat.pow_mul]
      (repeat' first | (refine s_set (r := fillB (bigB m 8) 8 (k + 1)) ?_ ?_ (h := ?_); (focus (first | omega | (simp only [List.length_map, List.length_append, List.length_take, List.length_drop, List.length_replicate]; omega))); (focus ((rw [setAt1 (fillB_elem hl8 hkn)]; exact hs)))) | (refine p_set (r := fillB (bigB m 8) 8 (k + 1)) ?_ ?_ (h := ?_); (focus (first | omega | (simp only [List.length_map, List.length_append, List.length_take, List.length_drop, List.length_replicate]; omega))); (focus ((rw [setAt1 (fillB_elem hl8 hkn)]; exact hs)))) | (refine go_ ?_; ((repeat' first | exact True.intro | refine Two.mk ?_ ?_); all_goals intros)) | fail "")
      all_goals (refine ⟨k + 1, ?_, ?_, ?_⟩; rotate_left 2; (exact lessA_); (focus (omega)); (focus (omega)))
    · have : k = 8 := by omega
      subst this
      rw [fillB_all hl8]
      (repeat' first | (refine go_ ?_; ((repeat' first | exact True.intro | refine Two.mk ?_ ?_); all_goals intros)) | fail "")
      all_goals exact ends_ (hr := rfl)
end Go.Proofs.Ytfdomanbdfekhaa
