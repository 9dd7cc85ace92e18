/-
  varint.Decode and the reference's VarOf: one answer. No condition.
-/
import Derived.Test.YthpophgcmgdpjaaGo
import Derived.Test.YthpophgcmgdpjaaBits
import Derived.Test.YthpophgcmgdpjaaNumber
set_option linter.unusedVariables false
set_option linter.unusedSimpArgs false
set_option linter.unusedVariables false
namespace Go.Proofs.Ythpophgcmgdpjaa
set_option maxRecDepth 100000
attribute [local irreducible] Run RunL QStep GStep Fn Less PL FnM

/-- how many bytes -/
def varW (l : List UInt8) : Nat := 2 ^ ((l.getD 0 default).toNat / 64)
/-- P1.3 -/
def varD (l : List UInt8) : Nat × Nat × Int :=
  if l.length = 0 then (0, 0, 4) else if l.length < varW l then (0, 0, 4) else (numG ((l.getD 0 default).toNat % 64) ((l.take (varW l)).drop 1), varW l, 0)
theorem varW_cases (l : List UInt8) : (varW l = 1 ∧ (l.getD 0 default).toNat / 64 = 0) ∨ (varW l = 2 ∧ (l.getD 0 default).toNat / 64 = 1) ∨ (varW l = 4 ∧ (l.getD 0 default).toNat / 64 = 2) ∨ (varW l = 8 ∧ (l.getD 0 default).toNat / 64 = 3) := by
  have := (l.getD 0 default).toNat_lt
  unfold varW
  rcases (show (l.getD 0 default).toNat / 64 = 0 ∨ (l.getD 0 default).toNat / 64 = 1 ∨ (l.getD 0 default).toNat / 64 = 2 ∨ (l.getD 0 default).toNat / 64 = 3 by omega) with h | h | h | h <;> rw [h] <;> decide
theorem varD_ok {l : List UInt8} {n k : Nat} {e : Int} (h : varD l = (n, k, e)) : (e = 0 ∧ 1 ≤ k ∧ k ≤ 8 ∧ k ≤ l.length ∧ n ≤ 4611686018427387903) ∨ (e = 4 ∧ n = 0 ∧ k = 0) := by
  unfold varD at h
  split at h
  · injection h with h1 h; injection h with h2 h3; exact .inr ⟨h3.symm, h1.symm, h2.symm⟩
  · split at h
    · injection h with h1 h; injection h with h2 h3; exact .inr ⟨h3.symm, h1.symm, h2.symm⟩
    · injection h with h1 h; injection h with h2 h3
      subst h1 h2 h3
      have hw := varW_cases l
      have hb := numG_lt ((l.getD 0 default).toNat % 64) ((l.take (varW l)).drop 1)
      rw [List.length_drop, List.length_take, Nat.min_eq_left (by omega)] at hb
      have h64 : (l.getD 0 default).toNat % 64 + 1 ≤ 64 := by omega
      have hp : 256 ^ (varW l - 1) ≤ 256 ^ 7 := Nat.pow_le_pow_right (by omega) (by omega)
      have h7 : (256 : Nat) ^ 7 = 72057594037927936 := by decide
      have := Nat.mul_le_mul h64 hp
      refine .inl ⟨rfl, by omega, by omega, by omega, by omega⟩
theorem varW_shift (l : List UInt8) : IntKind.i64.wrap (1 * 2 ^ min (((l.getD 0 default).toNat : Int).fdiv (2 ^ min (6 : Int).toNat IntKind.u8.bits)).toNat IntKind.i64.bits) = (varW l : Int) := by
  rw [show min (6 : Int).toNat IntKind.u8.bits = 6 from rfl, fdiv_two_pow]
  unfold varW
  rw [show (2 : Nat) ^ 6 = 64 by decide]
  have := (l.getD 0 default).toNat_lt
  rcases (show (l.getD 0 default).toNat / 64 = 0 ∨ (l.getD 0 default).toNat / 64 = 1 ∨ (l.getD 0 default).toNat / 64 = 2 ∨ (l.getD 0 default).toNat / 64 = 3 by omega) with h | h | h | h <;> rw [h] <;> decide
set_option maxHeartbeats 1000000 in
theorem varDecode_fn (l : List UInt8) (hl : l.length ≤ 1000000000000000) : Fn Try.prog 151 [.ro (l.map encB)] (.tup [.lit (.int .i64 ((varD l).1 : Int)), .lit (.int .i64 ((varD l).2.1 : Int)), .lit (.int .i64 (varD l).2.2)]) := by
  unfold varD
  by_cases h0 : l.length = 0
  · rw [if_pos h0]
    refine fn_of_run (by kernel_rfl) Try.func151 rfl (by kernel_rfl) ?_
    (repeat' first | (refine go_ ?_; ((repeat' first | exact True.intro | refine Two.mk ?_ ?_); all_goals intros)) | fail "")
    all_goals exact ends_ (hr := rfl)
  rw [if_neg h0]
  have hb := (l.getD 0 default).toNat_lt
  have hw := varW_cases l
  have hs := varW_shift l
  have hz : (0 : Int) ≤ ((l.getD 0 default).toNat : Int).fdiv (2 ^ min (6 : Int).toNat IntKind.u8.bits) := by rw [show min (6 : Int).toNat IntKind.u8.bits = 6 from rfl, fdiv_two_pow]; omega
  have ha := andU8 (l.getD 0 default).toNat 6 (by omega) (by omega)
  rw [show ((2 ^ 6 - 1 : Nat) : Int) = 63 from rfl, show (2 : Nat) ^ 6 = 64 from rfl] at ha
  generalize varW l = W at *
  have hm : (l.getD 0 default).toNat % 64 < 64 := Nat.mod_lt _ (by omega)
  generalize (l.getD 0 default).toNat % 64 = n0 at *
  by_cases hlw : l.length < W
  · rw [if_pos hlw]
    refine fn_of_run (by kernel_rfl) Try.func151 rfl (by kernel_rfl) ?_
    (repeat' first | (refine go_ ?_; ((repeat' first | exact True.intro | refine Two.mk ?_ ?_); all_goals intros)) | fail "")
    all_goals exact ends_ (hr := rfl)
  rw [if_neg hlw]
  dsimp only
  have hr : ((l.take W).drop 1).length = W - 1 := by rw [List.length_drop, List.length_take]; omega
  generalize hR : (l.take W).drop 1 = r at *
  refine fn_of_run (by kernel_rfl) Try.func151 rfl (by kernel_rfl) ?_
  (repeat' first | (refine s_slice (r := r) (1) (W) ?_ ?_ ?_ ?_ ?_ (h := ?_); (focus (first | rfl | (simp only [Option.getD_some, Option.getD_none, List.length_map]; omega))); (focus (first | rfl | (simp only [Option.getD_some, Option.getD_none, List.length_map]; omega))); (focus omega); (focus omega); (focus (first | with_reducible rfl | assumption | (simp; done)))) | (refine p_slice (r := r) (1) (W) ?_ ?_ ?_ ?_ ?_ (h := ?_); (focus (first | rfl | (simp only [Option.getD_some, Option.getD_none, List.length_map]; omega))); (focus (first | rfl | (simp only [Option.getD_some, Option.getD_none, List.length_map]; omega))); (focus omega); (focus omega); (focus (first | with_reducible rfl | assumption | (simp; done)))) | (refine s_slice_str (r := r) (1) (W) ?_ ?_ ?_ ?_ ?_ (h := ?_); (focus (first | rfl | (simp only [Option.getD_some, Option.getD_none, List.length_map]; omega))); (focus (first | rfl | (simp only [Option.getD_some, Option.getD_none, List.length_map]; omega))); (focus omega); (focus omega); (focus (first | with_reducible rfl | assumption | (simp; done)))) | (refine p_slice_str (r := r) (1) (W) ?_ ?_ ?_ ?_ ?_ (h := ?_); (focus (first | rfl | (simp only [Option.getD_some, Option.getD_none, List.length_map]; omega))); (focus (first | rfl | (simp only [Option.getD_some, Option.getD_none, List.length_map]; omega))); (focus omega); (focus omega); (focus (first | with_reducible rfl | assumption | (simp; done)))) | (refine s_sliceO (r := r) (1) (W) ?_ ?_ ?_ ?_ ?_ (h := ?_); (focus (first | rfl | (simp only [Option.getD_some, Option.getD_none, List.length_map]; omega))); (focus (first | rfl | (simp only [Option.getD_some, Option.getD_none, List.length_map]; omega))); (focus omega); (focus omega); (focus (first | with_reducible rfl | assumption | (simp; done)))) | (refine s_sliceM (r := r) (1) (W) ?_ ?_ ?_ ?_ ?_ (h := ?_); (focus (first | rfl | (simp only [Option.getD_some, Option.getD_none, List.length_map]; omega))); (focus (first | rfl | (simp only [Option.getD_some, Option.getD_none, List.length_map]; omega))); (focus omega); (focus omega); (focus (first | with_reducible rfl | assumption | (simp; done)))) | (refine go_ ?_; ((repeat' first | exact True.intro | refine Two.mk ?_ ?_); all_goals intros)) | fail "")
  refine r_for (fun k : Nat => ⟨[(2, .lit (.int .i64 ((numG n0 (r.take k) : Nat) : Int))), (5, .lit (.int .i64 (W : Int))), (27, .ro (r.map encB)), (28, .lit (.int .i64 r.length)), (29, .lit (.int .i64 k))], [], 0, Try.f151.ntmps⟩)
    (fun k => k ≤ r.length) (fun k => r.length - k) 0 (Nat.zero_le _) (by rw [show numG n0 (r.take 0) = n0 from rfl]; (exact lessA_)) ?_
  intro k hk
  by_cases hkn : k < r.length
  · have hc := (r.getD k default).toNat_lt
    have hg := numG_lt n0 (r.take k)
    rw [List.length_take, Nat.min_eq_left hk] at hg
    have hp : (n0 + 1) * 256 ^ k ≤ 64 * 256 ^ 6 := Nat.mul_le_mul (by omega) (Nat.pow_le_pow_right (by omega) (by omega))
    have h7 : 64 * (256 : Nat) ^ 6 = 18014398509481984 := by decide
    have e : numG n0 (r.take (k + 1)) = numG n0 (r.take k) * 256 + (r.getD k default).toNat := by rw [take_snoc hkn, numG_snoc]
    generalize numG n0 (r.take k) = m at *
    have e1 := shl8 m (by omega)
    have e2 := or64b m (r.getD k default).toNat hc (by omega)
    rw [← e1, ← e] at e2
    clear e e1 hg hp h7 ha hs
    (repeat' first | (refine go_ ?_; ((repeat' first | exact True.intro | refine Two.mk ?_ ?_); all_goals intros)) | fail "")
    all_goals (rw [e2]; (refine ⟨k + 1, ?_, ?_, ?_⟩; rotate_left 2; (exact lessA_); (focus (omega)); (focus (omega))))
  · (repeat' first | (refine go_ ?_; ((repeat' first | exact True.intro | refine Two.mk ?_ ?_); all_goals intros)) | fail "")
    all_goals (refine ends_ (hr := ?_); rw [List.take_of_length_le (by omega)])
theorem numB_head {l : List UInt8} {W : Nat} (hW : 1 ≤ W) (h : W ≤ l.length) : numB (l.take W) = (l.getD 0 default).toNat * 256 ^ (W - 1) + numB ((l.take W).drop 1) := by
  have h0 : 0 < (l.take W).length := by rw [List.length_take]; omega
  have e := drop_cons h0
  rw [List.drop_zero] at e
  have e2 : (l.take W).getD 0 default = l.getD 0 default := by
    rw [List.getD_eq_getElem?_getD, List.getElem?_take, if_pos (by omega), ← List.getD_eq_getElem?_getD]
  rw [e2] at e
  have hl : ((l.take W).drop 1).length = W - 1 := by rw [List.length_drop, List.length_take]; omega
  generalize (l.take W).drop 1 = r at *
  rw [e, show numB (l.getD 0 default :: r) = numG (0 * 256 + (l.getD 0 default).toNat) r from rfl, numG_add, hl]
  simp
theorem mod_head (b m P : Nat) (hm : m < P) : (b * P + m) % (64 * P) = b % 64 * P + m := by
  have h1 : b * P + m = b / 64 * (64 * P) + (b % 64 * P + m) := by
    have := Nat.div_add_mod b 64
    calc b * P + m = (64 * (b / 64) + b % 64) * P + m := by rw [this]
      _ = b / 64 * (64 * P) + (b % 64 * P + m) := by rw [Nat.add_mul, Nat.mul_comm 64, Nat.mul_assoc]; omega
  have h2 : b % 64 * P + m < 64 * P := by
    have : b % 64 + 1 ≤ 64 := by omega
    have := Nat.mul_le_mul_right P this
    rw [Nat.add_mul] at this
    omega
  rw [h1, Nat.mul_comm (b / 64), Nat.mul_add_mod, Nat.mod_eq_of_lt h2]
theorem varOf_val {l : List UInt8} (h : ¬ l.length < varW l) : numB (l.take (varW l)) % (64 * 256 ^ (varW l - 1)) = numG ((l.getD 0 default).toNat % 64) ((l.take (varW l)).drop 1) := by
  have hw := varW_cases l
  have hl : ((l.take (varW l)).drop 1).length = varW l - 1 := by rw [List.length_drop, List.length_take]; omega
  have := numB_lt _ _ hl
  rw [numB_head (by omega) (by omega), mod_head _ _ _ this, numG_add, hl]
theorem tab4 (q : Nat) (h : q < 4) {l : List (List V)} (hl : l = [[.lit (.int .i64 1)], [.lit (.int .i64 2)], [.lit (.int .i64 4)], [.lit (.int .i64 8)]]) : eAt l q = [.lit (.int .i64 ((2 ^ q : Nat) : Int))] := by
  subst hl
  rcases (show q = 0 ∨ q = 1 ∨ q = 2 ∨ q = 3 by omega) with rfl | rfl | rfl | rfl <;> rfl
set_option maxHeartbeats 1000000 in
theorem varOf_fn (l : List UInt8) (hl : l.length ≤ 1000000000000000) : Fn Try.prog 85 [.lit (.string (strB l))] (.tup [.lit (.int .i64 ((varD l).1 : Int)), .lit (.int .i64 ((varD l).2.1 : Int)), .lit (.int .i64 (varD l).2.2)]) := by
  unfold varD
  by_cases h0 : l.length = 0
  · have : l = [] := List.length_eq_zero_iff.1 h0
    subst this
    refine fn_of_run (by kernel_rfl) Try.func85 rfl (by kernel_rfl) ?_
    (repeat' first | (refine go_ ?_; ((repeat' first | exact True.intro | refine Two.mk ?_ ?_); all_goals intros)) | fail "")
    all_goals exact ends_ (hr := rfl)
  rw [if_neg h0]
  have hne : ¬ l = [] := fun e => h0 (by rw [e]; rfl)
  have hb := (l.getD 0 default).toNat_lt
  have hw := varW_cases l
  have hq : ((l.getD 0 default).toNat : Int) / 64 = (((l.getD 0 default).toNat / 64 : Nat) : Int) := by omega
  have ht : ∀ L, L = [[V.lit (.int .i64 1)], [V.lit (.int .i64 2)], [V.lit (.int .i64 4)], [V.lit (.int .i64 8)]] → eAt L ((l.getD 0 default).toNat / 64) = [.lit (.int .i64 (varW l : Int))] := fun L h => tab4 _ (by omega) h
  have ht := tab4 ((l.getD 0 default).toNat / 64) (by omega) rfl
  rw [show ((2 ^ ((l.getD 0 default).toNat / 64) : Nat) : Int) = (varW l : Int) from rfl] at ht
  by_cases hlw : l.length < varW l
  · rw [if_pos hlw]
    generalize varW l = W at *
    refine fn_of_run (by kernel_rfl) Try.func85 rfl (by kernel_rfl) ?_
    (repeat' first | (refine s_i (hq := q_index_ro (n := (l.getD 0 default).toNat / 64) (cs := [.lit (.int .i64 (W : Int))]) rfl rfl rfl ?_ ?_ rfl rfl rfl ?_) (h := ?_); (focus omega); (focus (simp only [List.length_cons, List.length_nil]; omega)); (focus exact ht)) | (refine goI_ ?_; ((repeat' first | exact True.intro | refine Two.mk ?_ ?_); all_goals intros)) | refine s_i (h := ?_) | refine s_i (hq := q_index_ro rfl rfl rfl (by first | exact lit0 | exact lit1 | exact lit2 | exact lit3 | rfl) (by simp only [List.length_cons, List.length_nil]; omega) rfl rfl rfl rfl) (h := ?_) | refine p_i (h := ?_) | refine p_ih (h := ?_) | refine s_lit (h := ?_) | refine p_lit (h := ?_) | refine p_lit0 (h := ?_) | refine s_lit0 (h := ?_) | refine s_ixa (h := ?_) | refine s_insert (h := ?_) | ((first | refine s_sadd rfl ?_ (h := ?_) | refine p_sadd rfl ?_ (h := ?_)); (focus (first | omega | (simp only [List.length_append, List.length_map, List.length_cons, List.length_nil, List.length_take, List.length_drop]; omega)))) | fail "")
    all_goals exact ends_ (hr := rfl)
  rw [if_neg hlw]
  have hv := varOf_val hlw
  have hlt : (l.take (varW l)).length = varW l := by rw [List.length_take]; omega
  have hnum := number_fn (l.take (varW l)) (by omega)
  rw [numV_num _ _ hlt (by omega)] at hnum
  have hsh : IntKind.u64.wrap (1 * 2 ^ min (8 * (varW l : Int) - 2).toNat IntKind.u64.bits) = ((64 * 256 ^ (varW l - 1) : Nat) : Int) ∧ 64 * 256 ^ (varW l - 1) ≤ 4611686018427387904 ∧ 0 < 64 * 256 ^ (varW l - 1) := by
    rcases hw with ⟨h, _⟩ | ⟨h, _⟩ | ⟨h, _⟩ | ⟨h, _⟩ <;> rw [h] <;> decide
  obtain ⟨s1, s2, s3⟩ := hsh
  have hlen : numB (l.take (varW l)) < 256 ^ (varW l) := numB_lt _ _ hlt
  have hm := Nat.mod_lt (numB (l.take (varW l))) s3
  have hmod : ((numB (l.take (varW l)) : Nat) : Int) % ((64 * 256 ^ (varW l - 1) : Nat) : Int) = ((numB (l.take (varW l)) % (64 * 256 ^ (varW l - 1)) : Nat) : Int) := rfl
  rw [← hv]
  dsimp only
  generalize numB (l.take (varW l)) % (64 * 256 ^ (varW l - 1)) = res at *
  generalize 64 * 256 ^ (varW l - 1) = M at *
  generalize numB (l.take (varW l)) = nb at *
  generalize htk : l.take (varW l) = tk at *
  generalize varW l = W at *
  have htk0 : (l.take W).drop 0 = tk := by rw [List.drop_zero]; exact htk
  rw [← s1] at hmod
  clear hv hlt hlen
  refine fn_of_run (by kernel_rfl) Try.func85 rfl (by kernel_rfl) ?_
  (repeat' first | (refine s_i (hq := q_index_ro (n := (l.getD 0 default).toNat / 64) (cs := [.lit (.int .i64 (W : Int))]) rfl rfl rfl ?_ ?_ rfl rfl rfl ?_) (h := ?_); (focus omega); (focus (simp only [List.length_cons, List.length_nil]; omega)); (focus exact ht)) | (refine s_slice (r := tk) (0) (W) ?_ ?_ ?_ ?_ ?_ (h := ?_); (focus (first | rfl | (simp only [Option.getD_some, Option.getD_none, List.length_map]; omega))); (focus (first | rfl | (simp only [Option.getD_some, Option.getD_none, List.length_map]; omega))); (focus omega); (focus omega); (focus (first | with_reducible rfl | assumption | (simp; done)))) | (refine p_slice (r := tk) (0) (W) ?_ ?_ ?_ ?_ ?_ (h := ?_); (focus (first | rfl | (simp only [Option.getD_some, Option.getD_none, List.length_map]; omega))); (focus (first | rfl | (simp only [Option.getD_some, Option.getD_none, List.length_map]; omega))); (focus omega); (focus omega); (focus (first | with_reducible rfl | assumption | (simp; done)))) | (refine s_slice_str (r := tk) (0) (W) ?_ ?_ ?_ ?_ ?_ (h := ?_); (focus (first | rfl | (simp only [Option.getD_some, Option.getD_none, List.length_map]; omega))); (focus (first | rfl | (simp only [Option.getD_some, Option.getD_none, List.length_map]; omega))); (focus omega); (focus omega); (focus (first | with_reducible rfl | assumption | (simp; done)))) | (refine p_slice_str (r := tk) (0) (W) ?_ ?_ ?_ ?_ ?_ (h := ?_); (focus (first | rfl | (simp only [Option.getD_some, Option.getD_none, List.length_map]; omega))); (focus (first | rfl | (simp only [Option.getD_some, Option.getD_none, List.length_map]; omega))); (focus omega); (focus omega); (focus (first | with_reducible rfl | assumption | (simp; done)))) | (refine s_sliceO (r := tk) (0) (W) ?_ ?_ ?_ ?_ ?_ (h := ?_); (focus (first | rfl | (simp only [Option.getD_some, Option.getD_none, List.length_map]; omega))); (focus (first | rfl | (simp only [Option.getD_some, Option.getD_none, List.length_map]; omega))); (focus omega); (focus omega); (focus (first | with_reducible rfl | assumption | (simp; done)))) | (refine s_sliceM (r := tk) (0) (W) ?_ ?_ ?_ ?_ ?_ (h := ?_); (focus (first | rfl | (simp only [Option.getD_some, Option.getD_none, List.length_map]; omega))); (focus (first | rfl | (simp only [Option.getD_some, Option.getD_none, List.length_map]; omega))); (focus omega); (focus omega); (focus (first | with_reducible rfl | assumption | (simp; done)))) | (refine s_call (hnum) (h := ?_)) | (refine p_call (hnum) (h := ?_)) | (refine goI_ ?_; ((repeat' first | exact True.intro | refine Two.mk ?_ ?_); all_goals intros)) | refine s_i (h := ?_) | refine s_i (hq := q_index_ro rfl rfl rfl (by first | exact lit0 | exact lit1 | exact lit2 | exact lit3 | rfl) (by simp only [List.length_cons, List.length_nil]; omega) rfl rfl rfl rfl) (h := ?_) | refine p_i (h := ?_) | refine p_ih (h := ?_) | refine s_lit (h := ?_) | refine p_lit (h := ?_) | refine p_lit0 (h := ?_) | refine s_lit0 (h := ?_) | refine s_ixa (h := ?_) | refine s_insert (h := ?_) | ((first | refine s_sadd rfl ?_ (h := ?_) | refine p_sadd rfl ?_ (h := ?_)); (focus (first | omega | (simp only [List.length_append, List.length_map, List.length_cons, List.length_nil, List.length_take, List.length_drop]; omega)))) | fail "")
  all_goals first
    | (refine ends_ (hr := ?_); rw [hmod])
    | skip
end Go.Proofs.Ythpophgcmgdpjaa
