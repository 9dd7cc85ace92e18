/-
  prefix.Encode and prefix.Text, and the reference's prefixText, where nothing is wrong: what they answer. No condition.
-/
import Derived.Test.YtfdomanbdfekhaaGA
import Derived.Test.YtfdomanbdfekhaaGC
set_option linter.unusedVariables false
set_option linter.unusedSimpArgs false
set_option linter.unusedVariables false
namespace Go.Proofs.Ytfdomanbdfekhaa
set_option maxRecDepth 100000
attribute [local irreducible] Run RunL QStep GStep Fn Less PL FnM

/-- a number's bytes behind the first one -/
def preTail (m : Nat) : List UInt8 := if m < 128 then [UInt8.ofNat m] else UInt8.ofNat (128 + m % 128) :: preTail (m / 128)
termination_by m
decreasing_by omega
theorem preTail_s {m : Nat} (h : m < 128) : preTail m = [UInt8.ofNat m] := by rw [preTail.eq_1, if_pos h]
theorem preTail_l {m : Nat} (h : ¬ m < 128) : preTail m = UInt8.ofNat (128 + m % 128) :: preTail (m / 128) := by rw [preTail.eq_1, if_neg h]
/-- P13.1 -/
def preE (f top n : Nat) : List UInt8 := if n < top then [UInt8.ofNat (f + n)] else UInt8.ofNat (f + top) :: preTail (n - top)
def txtE (f top : Nat) (s : List UInt8) : List UInt8 := preE f top s.length ++ s
theorem tail_step {m k N : Nat} (hk : k ≤ 8) (hm : 128 ≤ m) (h : m * 128 ^ k ≤ N) (hN : N ≤ 4611686018427387903) : k + 1 ≤ 8 ∧ m / 128 * 128 ^ (k + 1) ≤ N := by
  have h1 : m / 128 * 128 ^ (k + 1) ≤ m * 128 ^ k := by
    rw [Nat.pow_succ, Nat.mul_comm (128 ^ k) 128, ← Nat.mul_assoc]
    exact Nat.mul_le_mul_right _ (Nat.div_mul_le_self m 128)
  refine ⟨?_, by omega⟩
  rcases Nat.lt_or_ge k 8 with h8 | h8
  · omega
  · exfalso
    have hk8 : k = 8 := by omega
    subst hk8
    have : 128 * 128 ^ 8 ≤ m * 128 ^ 8 := Nat.mul_le_mul_right _ hm
    have e : (128 : Nat) * 128 ^ 8 = 9223372036854775808 := by decide
    omega
theorem preTail_len : ∀ (k m N : Nat), k ≤ 8 → m * 128 ^ k ≤ N → N ≤ 4611686018427387903 → (preTail m).length + k ≤ 9 := by
  intro k m
  induction m using Nat.strongRecOn generalizing k with
  | _ m ih =>
    intro N hk h hN
    by_cases hm : m < 128
    · rw [preTail_s hm]; simp; omega
    · obtain ⟨h1, h2⟩ := tail_step hk (by omega) h hN
      have := ih (m / 128) (by omega) (k + 1) N h1 h2 hN
      rw [preTail_l hm, List.length_cons]; omega
theorem preE_len (f top n : Nat) (hn : n ≤ 4611686018427387903) : (preE f top n).length ≤ 10 := by
  unfold preE
  split
  · simp
  · have := preTail_len 0 (n - top) (n - top) (by omega) (by omega) (by omega)
    rw [List.length_cons]; omega
theorem u8_small {n : Nat} (h : n < 256) : [V.lit (.int .u8 (n : Int))] = encB (UInt8.ofNat n) := by
  unfold encB
  rw [show (UInt8.ofNat n).toNat = n by simp [UInt8.toNat_ofNat, Nat.mod_eq_of_lt h]]
theorem or128 (a : Nat) (h : a < 128) : bitsI .or .u8 128 (a : Int) = ((128 + a : Nat) : Int) := orU8 7 128 a rfl (by omega) (by omega)
theorem topN (w : Nat) (hw : w ≤ 8) : IntKind.i64.wrap (1 * 2 ^ min (w : Int).toNat IntKind.i64.bits) = ((2 ^ w : Nat) : Int) ∧ 1 ≤ 2 ^ w ∧ 2 ^ w ≤ 256 := by
  rcases (show w = 0 ∨ w = 1 ∨ w = 2 ∨ w = 3 ∨ w = 4 ∨ w = 5 ∨ w = 6 ∨ w = 7 ∨ w = 8 by omega) with rfl | rfl | rfl | rfl | rfl | rfl | rfl | rfl | rfl <;> decide
theorem and64N (a w : Nat) (ha : a < 256) (hw : w ≤ 8) : bitsI .and .i64 (a : Int) ((2 ^ w - 1 : Nat) : Int) = ((a % 2 ^ w : Nat) : Int) := by
  unfold bitsI
  have := andLow (k := .i64) (.inl (by decide)) a w ha hw
  dsimp only
  rw [this, IntKind.wrap_i64]
  have := Nat.mod_le a (2 ^ w)
  generalize a % 2 ^ w = x at *
  omega
set_option maxHeartbeats 4000000 in
/-- prefix.Encode, where nothing is wrong -/
theorem prefixEncode_ok (f w n : Nat) (hw : 1 ≤ w ∧ w ≤ 8) (hn : n ≤ 4611686018427387903) (hf : f % 2 ^ w = 0) (hs : f + (2 ^ w - 1) < 256) :
    Fn Try.prog 11 [.lit (.int .u8 f), .lit (.int .i64 w), .lit (.int .i64 n)] (.tup [.ro ((preE f (2 ^ w - 1) n).map encB), .lit (.int .i64 0)]) := by
  obtain ⟨t1, t2, t3⟩ := topN w (by omega)
  have ha := and64N f w (by omega) (by omega)
  rw [hf, show ((2 ^ w - 1 : Nat) : Int) = ((2 ^ w : Nat) : Int) - 1 by omega, ← t1] at ha
  have hor := fun m hm => orU8 w f m hf hm
  generalize 2 ^ w = T at *
  unfold preE
  by_cases hnt : n < T - 1
  · rw [if_pos hnt]
    have ho := hor n (by omega) (by omega)
    refine fn_of_run (by kernel_rfl) Try.func11 rfl (by kernel_rfl) ?_
    (repeat' first | (refine go_ ?_; ((repeat' first | exact True.intro | refine Two.mk ?_ ?_); all_goals intros)) | fail "")
    all_goals first
      | (refine ends_ (hr := ?_); rw [ho, List.map_cons, List.map_nil, ← u8_small (show f + n < 256 by omega)]; done)
      | skip
  · rw [if_neg hnt]
    have ho := hor (T - 1) (by omega) hs
    rw [show ((T - 1 : Nat) : Int) = (T : Int) - 1 by omega, ← t1] at ho
    have h0 : [[V.lit (.int .u8 ((f + (T - 1) : Nat) : Int))]] = [UInt8.ofNat (f + (T - 1))].map encB := by rw [List.map_cons, List.map_nil, ← u8_small hs]
    generalize hR : UInt8.ofNat (f + (T - 1)) :: preTail (n - (T - 1)) = R
    refine fn_of_run (by kernel_rfl) Try.func11 rfl (by kernel_rfl) ?_
    (repeat' first | (refine s_rowR (r := [UInt8.ofNat (f + (T - 1))].map encB) (hr := ?_) (h := ?_); (focus (rw [ho, h0]))) | (refine goI_ ?_; ((repeat' first | exact True.intro | refine Two.mk ?_ ?_); all_goals intros)) | refine s_i (h := ?_) | refine s_i (hq := q_index_ro rfl rfl rfl (by first | exact lit0 | exact lit1 | exact lit2 | exact lit3 | rfl) (by simp only [List.length_cons, List.length_nil]; omega) rfl rfl rfl rfl) (h := ?_) | refine p_i (h := ?_) | refine p_ih (h := ?_) | refine s_lit (h := ?_) | refine p_lit (h := ?_) | refine p_lit0 (h := ?_) | refine s_lit0 (h := ?_) | refine s_ixa (h := ?_) | refine s_insert (h := ?_) | (refine s_sadd rfl ?_ (h := ?_); (focus (first | omega | (simp only [List.length_append, List.length_map, List.length_cons, List.length_nil, List.length_take, List.length_drop]; omega)))) | (refine p_sadd rfl ?_ (h := ?_); (focus (first | omega | (simp only [List.length_append, List.length_map, List.length_cons, List.length_nil, List.length_take, List.length_drop]; omega)))) | fail "")
    refine r_for (fun x : Nat × Nat × List UInt8 => ⟨[(2, .lit (.int .i64 (x.2.1 : Int))), (9, .own 0)], [(0, some (.row 5 1 (x.2.2.map encB)))], 1, Try.f11.ntmps⟩)
      (fun x => x.2.2 ++ preTail x.2.1 = R ∧ x.1 ≤ 8 ∧ x.2.1 * 128 ^ x.1 ≤ n ∧ x.2.2.length = x.1 + 1) (fun x => x.2.1) (0, n - (T - 1), [UInt8.ofNat (f + (T - 1))]) ⟨hR, by simp, by simp, rfl⟩ (by (exact lessA_)) ?_
    clear hR h0 ho ha hor
    rintro ⟨k, m, out⟩ ⟨hm, hk, hb, hl⟩
    dsimp only at hm hk hb hl ⊢
    by_cases h128 : m < 128
    · rw [preTail_s h128] at hm
      (repeat' first | (refine s_app (r := R.map encB) ?_ ?_ ?_ ?_ (h := ?_); (focus (first | ((rw [← hm, List.map_append, List.map_cons, List.map_nil, ← u8_small (show m < 256 by omega)])) | with_reducible rfl | with_reducible exact List.nil_append _ | with_reducible exact (List.map_append ..).symm | (rw [take_snoc (by assumption), List.map_append]; rfl) | (rw [List.map_append]; rfl) | (simp; done))); (focus (first | exact len_none | exact len_one rfl | exact len_two rfl rfl | exact len_enc (fun _ => rfl))); (focus ((conv => lhs; rhs; whnf); simp only [List.length_map, List.length_append, List.length_cons, List.length_nil, List.length_take]; omega)); (focus (simp only [List.length_map, List.length_append, List.length_cons, List.length_nil, List.length_take]; omega))) | (refine s_app0R (r := R.map encB) ?_ ?_ ?_ ?_ (h := ?_); (focus (first | ((rw [← hm, List.map_append, List.map_cons, List.map_nil, ← u8_small (show m < 256 by omega)])) | with_reducible rfl | with_reducible exact List.nil_append _ | with_reducible exact (List.map_append ..).symm | (rw [take_snoc (by assumption), List.map_append]; rfl) | (rw [List.map_append]; rfl) | (simp; done))); (focus (first | exact len_none | exact len_one rfl | exact len_two rfl rfl | exact len_enc (fun _ => rfl))); (focus ((conv => lhs; rhs; whnf); simp only [List.length_map, List.length_append, List.length_cons, List.length_nil, List.length_take]; omega)); (focus (simp only [List.length_map, List.length_append, List.length_cons, List.length_nil, List.length_take]; omega))) | (refine p_app (r := R.map encB) ?_ ?_ ?_ ?_ (h := ?_); (focus (first | ((rw [← hm, List.map_append, List.map_cons, List.map_nil, ← u8_small (show m < 256 by omega)])) | with_reducible rfl | with_reducible exact List.nil_append _ | with_reducible exact (List.map_append ..).symm | (rw [take_snoc (by assumption), List.map_append]; rfl) | (rw [List.map_append]; rfl) | (simp; done))); (focus (first | exact len_none | exact len_one rfl | exact len_two rfl rfl | exact len_enc (fun _ => rfl))); (focus ((conv => lhs; rhs; whnf); simp only [List.length_map, List.length_append, List.length_cons, List.length_nil, List.length_take]; omega)); (focus (simp only [List.length_map, List.length_append, List.length_cons, List.length_nil, List.length_take]; omega))) | (refine p_app0R (r := R.map encB) ?_ ?_ ?_ ?_ (h := ?_); (focus (first | ((rw [← hm, List.map_append, List.map_cons, List.map_nil, ← u8_small (show m < 256 by omega)])) | with_reducible rfl | with_reducible exact List.nil_append _ | with_reducible exact (List.map_append ..).symm | (rw [take_snoc (by assumption), List.map_append]; rfl) | (rw [List.map_append]; rfl) | (simp; done))); (focus (first | exact len_none | exact len_one rfl | exact len_two rfl rfl | exact len_enc (fun _ => rfl))); (focus ((conv => lhs; rhs; whnf); simp only [List.length_map, List.length_append, List.length_cons, List.length_nil, List.length_take]; omega)); (focus (simp only [List.length_map, List.length_append, List.length_cons, List.length_nil, List.length_take]; omega))) | (refine go_ ?_; ((repeat' first | exact True.intro | refine Two.mk ?_ ?_); all_goals intros)) | fail "")
      all_goals first
        | (exact endwA_)
        | skip
    · rw [preTail_l h128] at hm
      obtain ⟨s1, s2⟩ := tail_step hk (by omega) hb hn
      have hmn : m ≤ n := Nat.le_trans (Nat.le_mul_of_pos_right m (Nat.pow_pos (by decide))) hb
      have e3 : bitsI .or .u8 128 ((m : Int) % 128) = ((128 + m % 128 : Nat) : Int) := or128 (m % 128) (by omega)
      (repeat' first | (refine s_app (r := (out ++ [UInt8.ofNat (128 + m % 128)]).map encB) ?_ ?_ ?_ ?_ (h := ?_); (focus (first | ((rw [e3, List.map_append, List.map_cons, List.map_nil, ← u8_small (show 128 + m % 128 < 256 by omega)])) | with_reducible rfl | with_reducible exact List.nil_append _ | with_reducible exact (List.map_append ..).symm | (rw [take_snoc (by assumption), List.map_append]; rfl) | (rw [List.map_append]; rfl) | (simp; done))); (focus (first | exact len_none | exact len_one rfl | exact len_two rfl rfl | exact len_enc (fun _ => rfl))); (focus ((conv => lhs; rhs; whnf); simp only [List.length_map, List.length_append, List.length_cons, List.length_nil, List.length_take]; omega)); (focus (simp only [List.length_map, List.length_append, List.length_cons, List.length_nil, List.length_take]; omega))) | (refine s_app0R (r := (out ++ [UInt8.ofNat (128 + m % 128)]).map encB) ?_ ?_ ?_ ?_ (h := ?_); (focus (first | ((rw [e3, List.map_append, List.map_cons, List.map_nil, ← u8_small (show 128 + m % 128 < 256 by omega)])) | with_reducible rfl | with_reducible exact List.nil_append _ | with_reducible exact (List.map_append ..).symm | (rw [take_snoc (by assumption), List.map_append]; rfl) | (rw [List.map_append]; rfl) | (simp; done))); (focus (first | exact len_none | exact len_one rfl | exact len_two rfl rfl | exact len_enc (fun _ => rfl))); (focus ((conv => lhs; rhs; whnf); simp only [List.length_map, List.length_append, List.length_cons, List.length_nil, List.length_take]; omega)); (focus (simp only [List.length_map, List.length_append, List.length_cons, List.length_nil, List.length_take]; omega))) | (refine p_app (r := (out ++ [UInt8.ofNat (128 + m % 128)]).map encB) ?_ ?_ ?_ ?_ (h := ?_); (focus (first | ((rw [e3, List.map_append, List.map_cons, List.map_nil, ← u8_small (show 128 + m % 128 < 256 by omega)])) | with_reducible rfl | with_reducible exact List.nil_append _ | with_reducible exact (List.map_append ..).symm | (rw [take_snoc (by assumption), List.map_append]; rfl) | (rw [List.map_append]; rfl) | (simp; done))); (focus (first | exact len_none | exact len_one rfl | exact len_two rfl rfl | exact len_enc (fun _ => rfl))); (focus ((conv => lhs; rhs; whnf); simp only [List.length_map, List.length_append, List.length_cons, List.length_nil, List.length_take]; omega)); (focus (simp only [List.length_map, List.length_append, List.length_cons, List.length_nil, List.length_take]; omega))) | (refine p_app0R (r := (out ++ [UInt8.ofNat (128 + m % 128)]).map encB) ?_ ?_ ?_ ?_ (h := ?_); (focus (first | ((rw [e3, List.map_append, List.map_cons, List.map_nil, ← u8_small (show 128 + m % 128 < 256 by omega)])) | with_reducible rfl | with_reducible exact List.nil_append _ | with_reducible exact (List.map_append ..).symm | (rw [take_snoc (by assumption), List.map_append]; rfl) | (rw [List.map_append]; rfl) | (simp; done))); (focus (first | exact len_none | exact len_one rfl | exact len_two rfl rfl | exact len_enc (fun _ => rfl))); (focus ((conv => lhs; rhs; whnf); simp only [List.length_map, List.length_append, List.length_cons, List.length_nil, List.length_take]; omega)); (focus (simp only [List.length_map, List.length_append, List.length_cons, List.length_nil, List.length_take]; omega))) | (refine go_ ?_; ((repeat' first | exact True.intro | refine Two.mk ?_ ?_); all_goals intros)) | fail "")
      all_goals first
        | (refine ⟨(k + 1, m / 128, out ++ [UInt8.ofNat (128 + m % 128)]), ?_, ?_, ?_⟩; rotate_left 2; (exact lessA_); (focus (dsimp only; omega)); (focus (exact ⟨by rw [← hm]; simp, s1, s2, by simp; omega⟩)))
        | skip
set_option maxHeartbeats 4000000 in
/-- the same, of the call's own: a small number -/
theorem prefixEncode_s (f w n : Nat) (hw : 1 ≤ w ∧ w ≤ 8) (hn : n ≤ 4611686018427387903) (hf : f % 2 ^ w = 0) (hs : f + (2 ^ w - 1) < 256) (hnt : n < 2 ^ w - 1) :
    FnM Try.prog 11 [.lit (.int .u8 f), .lit (.int .i64 w), .lit (.int .i64 n)] [] 0 (.tup [.own 0, .lit (.int .i64 0)]) [(0, some (.row 5 1 ((preE f (2 ^ w - 1) n).map encB)))] 1 := by
  obtain ⟨t1, t2, t3⟩ := topN w (by omega)
  have ha := and64N f w (by omega) (by omega)
  rw [hf, show ((2 ^ w - 1 : Nat) : Int) = ((2 ^ w : Nat) : Int) - 1 by omega, ← t1] at ha
  have hor := fun m hm => orU8 w f m hf hm
  generalize 2 ^ w = T at *
  unfold preE
  rw [if_pos hnt]
  have ho := hor n (by omega) (by omega)
  refine fnm_of_run (by kernel_rfl) Try.func11 rfl (by kernel_rfl) (by rfl) ?_
  (repeat' first | (refine s_rowR (r := [UInt8.ofNat (f + n)].map encB) (hr := ?_) (h := ?_); (focus ((rw [ho, List.map_cons, List.map_nil, ← u8_small (show f + n < 256 by omega)])))) | (refine goI_ ?_; ((repeat' first | exact True.intro | refine Two.mk ?_ ?_); all_goals intros)) | refine s_i (h := ?_) | refine s_i (hq := q_index_ro rfl rfl rfl (by first | exact lit0 | exact lit1 | exact lit2 | exact lit3 | rfl) (by simp only [List.length_cons, List.length_nil]; omega) rfl rfl rfl rfl) (h := ?_) | refine p_i (h := ?_) | refine p_ih (h := ?_) | refine s_lit (h := ?_) | refine p_lit (h := ?_) | refine p_lit0 (h := ?_) | refine s_lit0 (h := ?_) | refine s_ixa (h := ?_) | refine s_insert (h := ?_) | (refine s_sadd rfl ?_ (h := ?_); (focus (first | omega | (simp only [List.length_append, List.length_map, List.length_cons, List.length_nil, List.length_take, List.length_drop]; omega)))) | (refine p_sadd rfl ?_ (h := ?_); (focus (first | omega | (simp only [List.length_append, List.length_map, List.length_cons, List.length_nil, List.length_take, List.length_drop]; omega)))) | fail "")
  all_goals first
    | (exact endmA_)
    | skip
set_option maxHeartbeats 4000000 in
/-- the same, of the call's own: a great number -/
theorem prefixEncode_l (f w n : Nat) (hw : 1 ≤ w ∧ w ≤ 8) (hn : n ≤ 4611686018427387903) (hf : f % 2 ^ w = 0) (hs : f + (2 ^ w - 1) < 256) (hnt : ¬ n < 2 ^ w - 1) :
    FnM Try.prog 11 [.lit (.int .u8 f), .lit (.int .i64 w), .lit (.int .i64 n)] [] 0 (.tup [.own 1, .lit (.int .i64 0)]) [(1, some (.row 5 1 ((preE f (2 ^ w - 1) n).map encB)))] 2 := by
  obtain ⟨t1, t2, t3⟩ := topN w (by omega)
  have ha := and64N f w (by omega) (by omega)
  rw [hf, show ((2 ^ w - 1 : Nat) : Int) = ((2 ^ w : Nat) : Int) - 1 by omega, ← t1] at ha
  have hor := fun m hm => orU8 w f m hf hm
  generalize 2 ^ w = T at *
  unfold preE
  rw [if_neg hnt]
  have ho := hor (T - 1) (by omega) hs
  rw [show ((T - 1 : Nat) : Int) = (T : Int) - 1 by omega, ← t1] at ho
  have h0 : [[V.lit (.int .u8 ((f + (T - 1) : Nat) : Int))]] = [UInt8.ofNat (f + (T - 1))].map encB := by rw [List.map_cons, List.map_nil, ← u8_small hs]
  generalize hR : UInt8.ofNat (f + (T - 1)) :: preTail (n - (T - 1)) = R
  refine fnm_of_run (by kernel_rfl) Try.func11 rfl (by kernel_rfl) (by rfl) ?_
  (repeat' first | (refine s_rowR (r := [UInt8.ofNat (f + (T - 1))].map encB) (hr := ?_) (h := ?_); (focus (rw [ho, h0]))) | (refine goI_ ?_; ((repeat' first | exact True.intro | refine Two.mk ?_ ?_); all_goals intros)) | refine s_i (h := ?_) | refine s_i (hq := q_index_ro rfl rfl rfl (by first | exact lit0 | exact lit1 | exact lit2 | exact lit3 | rfl) (by simp only [List.length_cons, List.length_nil]; omega) rfl rfl rfl rfl) (h := ?_) | refine p_i (h := ?_) | refine p_ih (h := ?_) | refine s_lit (h := ?_) | refine p_lit (h := ?_) | refine p_lit0 (h := ?_) | refine s_lit0 (h := ?_) | refine s_ixa (h := ?_) | refine s_insert (h := ?_) | (refine s_sadd rfl ?_ (h := ?_); (focus (first | omega | (simp only [List.length_append, List.length_map, List.length_cons, List.length_nil, List.length_take, List.length_drop]; omega)))) | (refine p_sadd rfl ?_ (h := ?_); (focus (first | omega | (simp only [List.length_append, List.length_map, List.length_cons, List.length_nil, List.length_take, List.length_drop]; omega)))) | fail "")
  refine r_for (fun x : Nat × Nat × List UInt8 => ⟨[(2, .lit (.int .i64 (x.2.1 : Int))), (9, .own 0)], [(0, some (.row 5 1 (x.2.2.map encB)))], 1, Try.f11.ntmps⟩)
    (fun x => x.2.2 ++ preTail x.2.1 = R ∧ x.1 ≤ 8 ∧ x.2.1 * 128 ^ x.1 ≤ n ∧ x.2.2.length = x.1 + 1) (fun x => x.2.1) (0, n - (T - 1), [UInt8.ofNat (f + (T - 1))]) ⟨hR, by simp, by simp, rfl⟩ (by (exact lessA_)) ?_
  clear hR h0 ho ha hor
  rintro ⟨k, m, out⟩ ⟨hm, hk, hb, hl⟩
  dsimp only at hm hk hb hl ⊢
  by_cases h128 : m < 128
  · rw [preTail_s h128] at hm
    (repeat' first | (refine s_app (r := R.map encB) ?_ ?_ ?_ ?_ (h := ?_); (focus (first | ((rw [← hm, List.map_append, List.map_cons, List.map_nil, ← u8_small (show m < 256 by omega)])) | with_reducible rfl | with_reducible exact List.nil_append _ | with_reducible exact (List.map_append ..).symm | (rw [take_snoc (by assumption), List.map_append]; rfl) | (rw [List.map_append]; rfl) | (simp; done))); (focus (first | exact len_none | exact len_one rfl | exact len_two rfl rfl | exact len_enc (fun _ => rfl))); (focus ((conv => lhs; rhs; whnf); simp only [List.length_map, List.length_append, List.length_cons, List.length_nil, List.length_take]; omega)); (focus (simp only [List.length_map, List.length_append, List.length_cons, List.length_nil, List.length_take]; omega))) | (refine s_app0R (r := R.map encB) ?_ ?_ ?_ ?_ (h := ?_); (focus (first | ((rw [← hm, List.map_append, List.map_cons, List.map_nil, ← u8_small (show m < 256 by omega)])) | with_reducible rfl | with_reducible exact List.nil_append _ | with_reducible exact (List.map_append ..).symm | (rw [take_snoc (by assumption), List.map_append]; rfl) | (rw [List.map_append]; rfl) | (simp; done))); (focus (first | exact len_none | exact len_one rfl | exact len_two rfl rfl | exact len_enc (fun _ => rfl))); (focus ((conv => lhs; rhs; whnf); simp only [List.length_map, List.length_append, List.length_cons, List.length_nil, List.length_take]; omega)); (focus (simp only [List.length_map, List.length_append, List.length_cons, List.length_nil, List.length_take]; omega))) | (refine p_app (r := R.map encB) ?_ ?_ ?_ ?_ (h := ?_); (focus (first | ((rw [← hm, List.map_append, List.map_cons, List.map_nil, ← u8_small (show m < 256 by omega)])) | with_reducible rfl | with_reducible exact List.nil_append _ | with_reducible exact (List.map_append ..).symm | (rw [take_snoc (by assumption), List.map_append]; rfl) | (rw [List.map_append]; rfl) | (simp; done))); (focus (first | exact len_none | exact len_one rfl | exact len_two rfl rfl | exact len_enc (fun _ => rfl))); (focus ((conv => lhs; rhs; whnf); simp only [List.length_map, List.length_append, List.length_cons, List.length_nil, List.length_take]; omega)); (focus (simp only [List.length_map, List.length_append, List.length_cons, List.length_nil, List.length_take]; omega))) | (refine p_app0R (r := R.map encB) ?_ ?_ ?_ ?_ (h := ?_); (focus (first | ((rw [← hm, List.map_append, List.map_cons, List.map_nil, ← u8_small (show m < 256 by omega)])) | with_reducible rfl | with_reducible exact List.nil_append _ | with_reducible exact (List.map_append ..).symm | (rw [take_snoc (by assumption), List.map_append]; rfl) | (rw [List.map_append]; rfl) | (simp; done))); (focus (first | exact len_none | exact len_one rfl | exact len_two rfl rfl | exact len_enc (fun _ => rfl))); (focus ((conv => lhs; rhs; whnf); simp only [List.length_map, List.length_append, List.length_cons, List.length_nil, List.length_take]; omega)); (focus (simp only [List.length_map, List.length_append, List.length_cons, List.length_nil, List.length_take]; omega))) | (refine go_ ?_; ((repeat' first | exact True.intro | refine Two.mk ?_ ?_); all_goals intros)) | fail "")
    all_goals first
      | (exact endmA_)
      | skip
  · rw [preTail_l h128] at hm
    obtain ⟨s1, s2⟩ := tail_step hk (by omega) hb hn
    have hmn : m ≤ n := Nat.le_trans (Nat.le_mul_of_pos_right m (Nat.pow_pos (by decide))) hb
    have e3 : bitsI .or .u8 128 ((m : Int) % 128) = ((128 + m % 128 : Nat) : Int) := or128 (m % 128) (by omega)
    (repeat' first | (refine s_app (r := (out ++ [UInt8.ofNat (128 + m % 128)]).map encB) ?_ ?_ ?_ ?_ (h := ?_); (focus (first | ((rw [e3, List.map_append, List.map_cons, List.map_nil, ← u8_small (show 128 + m % 128 < 256 by omega)])) | with_reducible rfl | with_reducible exact List.nil_append _ | with_reducible exact (List.map_append ..).symm | (rw [take_snoc (by assumption), List.map_append]; rfl) | (rw [List.map_append]; rfl) | (simp; done))); (focus (first | exact len_none | exact len_one rfl | exact len_two rfl rfl | exact len_enc (fun _ => rfl))); (focus ((conv => lhs; rhs; whnf); simp only [List.length_map, List.length_append, List.length_cons, List.length_nil, List.length_take]; omega)); (focus (simp only [List.length_map, List.length_append, List.length_cons, List.length_nil, List.length_take]; omega))) | (refine s_app0R (r := (out ++ [UInt8.ofNat (128 + m % 128)]).map encB) ?_ ?_ ?_ ?_ (h := ?_); (focus (first | ((rw [e3, List.map_append, List.map_cons, List.map_nil, ← u8_small (show 128 + m % 128 < 256 by omega)])) | with_reducible rfl | with_reducible exact List.nil_append _ | with_reducible exact (List.map_append ..).symm | (rw [take_snoc (by assumption), List.map_append]; rfl) | (rw [List.map_append]; rfl) | (simp; done))); (focus (first | exact len_none | exact len_one rfl | exact len_two rfl rfl | exact len_enc (fun _ => rfl))); (focus ((conv => lhs; rhs; whnf); simp only [List.length_map, List.length_append, List.length_cons, List.length_nil, List.length_take]; omega)); (focus (simp only [List.length_map, List.length_append, List.length_cons, List.length_nil, List.length_take]; omega))) | (refine p_app (r := (out ++ [UInt8.ofNat (128 + m % 128)]).map encB) ?_ ?_ ?_ ?_ (h := ?_); (focus (first | ((rw [e3, List.map_append, List.map_cons, List.map_nil, ← u8_small (show 128 + m % 128 < 256 by omega)])) | with_reducible rfl | with_reducible exact List.nil_append _ | with_reducible exact (List.map_append ..).symm | (rw [take_snoc (by assumption), List.map_append]; rfl) | (rw [List.map_append]; rfl) | (simp; done))); (focus (first | exact len_none | exact len_one rfl | exact len_two rfl rfl | exact len_enc (fun _ => rfl))); (focus ((conv => lhs; rhs; whnf); simp only [List.length_map, List.length_append, List.length_cons, List.length_nil, List.length_take]; omega)); (focus (simp only [List.length_map, List.length_append, List.length_cons, List.length_nil, List.length_take]; omega))) | (refine p_app0R (r := (out ++ [UInt8.ofNat (128 + m % 128)]).map encB) ?_ ?_ ?_ ?_ (h := ?_); (focus (first | ((rw [e3, List.map_append, List.map_cons, List.map_nil, ← u8_small (show 128 + m % 128 < 256 by omega)])) | with_reducible rfl | with_reducible exact List.nil_append _ | with_reducible exact (List.map_append ..).symm | (rw [take_snoc (by assumption), List.map_append]; rfl) | (rw [List.map_append]; rfl) | (simp; done))); (focus (first | exact len_none | exact len_one rfl | exact len_two rfl rfl | exact len_enc (fun _ => rfl))); (focus ((conv => lhs; rhs; whnf); simp only [List.length_map, List.length_append, List.length_cons, List.length_nil, List.length_take]; omega)); (focus (simp only [List.length_map, List.length_append, List.length_cons, List.length_nil, List.length_take]; omega))) | (refine go_ ?_; ((repeat' first | exact True.intro | refine Two.mk ?_ ?_); all_goals intros)) | fail "")
    all_goals first
      | (refine ⟨(k + 1, m / 128, out ++ [UInt8.ofNat (128 + m % 128)]), ?_, ?_, ?_⟩; rotate_left 2; (exact lessA_); (focus (dsimp only; omega)); (focus (exact ⟨by rw [← hm]; simp, s1, s2, by simp; omega⟩)))
      | skip
set_option maxHeartbeats 4000000 in
/-- prefix.Text, where nothing is wrong -/
theorem prefixText_ok (f w : Nat) (s : List UInt8) (hw : 1 ≤ w ∧ w ≤ 8) (hn : s.length ≤ 120) (hf : f % 2 ^ w = 0) (hs : f + (2 ^ w - 1) < 256) :
    Fn Try.prog 12 [.lit (.int .u8 f), .lit (.int .i64 w), .lit (.string (strB s))] (.tup [.ro ((txtE f (2 ^ w - 1) s).map encB), .lit (.int .i64 0)]) := by
  have hl := preE_len f (2 ^ w - 1) s.length (by omega)
  unfold txtE
  by_cases hnt : s.length < 2 ^ w - 1
  · have h1 := prefixEncode_s f w s.length hw (by omega) hf hs hnt
    generalize preE f (2 ^ w - 1) s.length = p at *
    clear hf hs hnt
    refine fn_of_run (by kernel_rfl) Try.func12 rfl (by kernel_rfl) ?_
    (repeat' first | (refine s_callM [] (h1) (h := ?_)) | (refine s_callM0 [] (h1) (h := ?_)) | (refine p_callN (h1) (h := ?_)) | refine s_appS (r := (p ++ s).map encB) (bs := s) (by rw [List.map_append]) (by rw [List.length_map]; omega) (h := ?_) | (refine go_ ?_; ((repeat' first | exact True.intro | refine Two.mk ?_ ?_); all_goals intros)) | fail "")
    all_goals first
      | (exact endwA_)
      | skip
  · have h1 := prefixEncode_l f w s.length hw (by omega) hf hs hnt
    generalize preE f (2 ^ w - 1) s.length = p at *
    clear hf hs hnt
    refine fn_of_run (by kernel_rfl) Try.func12 rfl (by kernel_rfl) ?_
    (repeat' first | (refine s_callM [] (h1) (h := ?_)) | (refine s_callM0 [] (h1) (h := ?_)) | (refine p_callN (h1) (h := ?_)) | refine s_appS (r := (p ++ s).map encB) (bs := s) (by rw [List.map_append]) (by rw [List.length_map]; omega) (h := ?_) | (refine go_ ?_; ((repeat' first | exact True.intro | refine Two.mk ?_ ?_); all_goals intros)) | fail "")
    all_goals first
      | (exact endwA_)
      | skip
end Go.Proofs.Ytfdomanbdfekhaa
