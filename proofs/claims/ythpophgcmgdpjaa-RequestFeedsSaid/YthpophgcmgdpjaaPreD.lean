/-
  prefix.Decode and prefix.Read, and the reference's PrefixOf and TextOf: one answer each. No condition.
-/
import Derived.Test.YthpophgcmgdpjaaGo
import Derived.Test.YthpophgcmgdpjaaByt
import Derived.Test.YthpophgcmgdpjaaUpTo
set_option linter.unusedVariables false
set_option linter.unusedSimpArgs false
set_option linter.unusedVariables false
namespace Go.Proofs.Ythpophgcmgdpjaa
set_option maxRecDepth 100000
attribute [local irreducible] Run RunL QStep GStep Fn Less PL FnM

/-- the bytes behind the first -/
def pgo : List UInt8 → Nat → Nat → Int × Int × Int
  | [], _, _ => (0, 0, 4)
  | c :: r, i, n => if i = 9 then (0, 0, 1) else if 4611686018427387903 < n + c.toNat % 128 * 128 ^ i then (0, 0, 6) else if c.toNat < 128 then (((n + c.toNat % 128 * 128 ^ i : Nat) : Int), ((i + 2 : Nat) : Int), 0) else pgo r (i + 1) (n + c.toNat % 128 * 128 ^ i)
def widOk (w : Int) : Prop := 1 ≤ w ∧ w ≤ 8
instance (w : Int) : Decidable (widOk w) := inferInstanceAs (Decidable (_ ∧ _))
/-- P13.2 -/
def preD (l : List UInt8) (w : Int) : Int × Int × Int :=
  if ¬ widOk w then (0, 0, 6) else if l.length = 0 then (0, 0, 4) else
  if (l.getD 0 default).toNat % 2 ^ w.toNat < 2 ^ w.toNat - 1 then ((((l.getD 0 default).toNat % 2 ^ w.toNat : Nat) : Int), 1, 0) else pgo (l.drop 1) 0 ((l.getD 0 default).toNat % 2 ^ w.toNat)
theorem pgo_at {l : List UInt8} {k n : Nat} (h : k < l.length) : pgo (l.drop k) k n = if k = 9 then (0, 0, 1) else if 4611686018427387903 < n + (l.getD k default).toNat % 128 * 128 ^ k then (0, 0, 6) else if (l.getD k default).toNat < 128 then (((n + (l.getD k default).toNat % 128 * 128 ^ k : Nat) : Int), ((k + 2 : Nat) : Int), 0) else pgo (l.drop (k + 1)) (k + 1) (n + (l.getD k default).toNat % 128 * 128 ^ k) := by
  rw [drop_cons h]; rfl
theorem and_low {k : IntKind} (hb : 9 ≤ k.bits ∨ k.bits = 8) (a w : Nat) (ha : a < 256) (hw : w ≤ 8) : (BitVec.ofInt k.bits (a : Int) &&& BitVec.ofInt k.bits ((2 ^ w - 1 : Nat) : Int) : BitVec k.bits).toNat = a % 2 ^ w := by
  have h1 : (256 : Nat) ≤ 2 ^ k.bits := by
    rw [show (256 : Nat) = 2 ^ 8 by decide]
    exact Nat.pow_le_pow_right (by omega) (by omega)
  have h2 : 2 ^ w ≤ 2 ^ 8 := Nat.pow_le_pow_right (by omega) hw
  have h3 : (2 : Nat) ^ 8 = 256 := by decide
  rw [BitVec.toNat_and, BitVec.ofInt_natCast, BitVec.ofInt_natCast, BitVec.toNat_ofNat, BitVec.toNat_ofNat, Nat.mod_eq_of_lt (by omega), Nat.mod_eq_of_lt (by omega), Nat.and_two_pow_sub_one_eq_mod]
theorem and64 (a w : Nat) (ha : a < 256) (hw : w ≤ 8) : bitsI .and .i64 (a : Int) ((2 ^ w - 1 : Nat) : Int) = ((a % 2 ^ w : Nat) : Int) := by
  unfold bitsI
  have := and_low (k := .i64) (.inl (by decide)) a w ha hw
  dsimp only
  rw [this, IntKind.wrap_i64]
  have := Nat.mod_le a (2 ^ w)
  generalize a % 2 ^ w = x at *
  omega
theorem and127 (a : Nat) (ha : a < 256) : bitsI .and .u8 (a : Int) 127 = ((a % 128 : Nat) : Int) := by
  have := and_low (k := .u8) (.inr rfl) a 7 ha (by omega)
  show IntKind.u8.wrap _ = _
  rw [show (127 : Int) = ((2 ^ 7 - 1 : Nat) : Int) from rfl, this, IntKind.wrap_u8]
  omega
theorem shl_small (x k : Nat) (hx : x < 128) (hk : k ≤ 8) : IntKind.i64.wrap ((x : Int) * 2 ^ min (7 * (k : Int)).toNat IntKind.i64.bits) = ((x * 128 ^ k : Nat) : Int) ∧ x * 128 ^ k ≤ 9151314442816847872 := by
  have h1 : min (7 * (k : Int)).toNat IntKind.i64.bits = 7 * k := by show min (7 * (k : Int)).toNat 64 = _; omega
  have h2 : (128 : Nat) ^ k ≤ 128 ^ 8 := Nat.pow_le_pow_right (by omega) hk
  have h3 : (128 : Nat) ^ 8 = 72057594037927936 := by decide
  have h4 : x * 128 ^ k ≤ 127 * 128 ^ 8 := Nat.mul_le_mul (by omega) h2
  have h5 : (x : Int) * 2 ^ (7 * k) = ((x * 128 ^ k : Nat) : Int) := by
    rw [show (128 : Nat) ^ k = 2 ^ (7 * k) by rw [Nat.pow_mul]]
    push_cast; rfl
  refine ⟨?_, by omega⟩
  rw [h1, h5, IntKind.wrap_i64]
  omega
theorem top_eq (w : Nat) (hw : w ≤ 8) : IntKind.i64.wrap (1 * 2 ^ min (w : Int).toNat IntKind.i64.bits) = ((2 ^ w : Nat) : Int) ∧ 1 ≤ 2 ^ w ∧ 2 ^ w ≤ 256 := by
  rcases (show w = 0 ∨ w = 1 ∨ w = 2 ∨ w = 3 ∨ w = 4 ∨ w = 5 ∨ w = 6 ∨ w = 7 ∨ w = 8 by omega) with rfl | rfl | rfl | rfl | rfl | rfl | rfl | rfl | rfl <;> decide

theorem prefixDecode_fn (l : List UInt8) (w : Int) (hl : l.length ≤ 1000000000000000) : Fn Try.prog 139 [.ro (l.map encB), .lit (.int .i64 w)] (.tup [.lit (.int .i64 (preD l w).1), .lit (.int .i64 (preD l w).2.1), .lit (.int .i64 (preD l w).2.2)]) := by
  by_cases ho : widOk w
  · unfold preD
    rw [if_neg (by simpa using ho)]
    unfold widOk at ho
    obtain ⟨w, rfl⟩ := Int.eq_ofNat_of_zero_le (show 0 ≤ w by omega)
    rw [Int.toNat_natCast]
    by_cases h0 : l.length = 0
    · rw [if_pos h0]
      refine fn_of_run (by kernel_rfl) Try.func139 rfl (by kernel_rfl) ?_
      (repeat' first | (refine go_ ?_; ((repeat' first | exact True.intro | refine Two.mk ?_ ?_); all_goals intros)) | fail "")
      all_goals exact ends_ (hr := rfl)
    · rw [if_neg h0]
      obtain ⟨t1, t2, t3⟩ := top_eq w (by omega)
      have hb := (l.getD 0 default).toNat_lt
      have ha := and64 (l.getD 0 default).toNat w (by omega) (by omega)
      have hm := Nat.mod_lt (l.getD 0 default).toNat (show 0 < 2 ^ w by omega)
      rw [show ((2 ^ w - 1 : Nat) : Int) = ((2 ^ w : Nat) : Int) - 1 by omega, ← t1] at ha
      generalize (l.getD 0 default).toNat % 2 ^ w = n0 at *
      generalize 2 ^ w = T at *
      have hr : (l.drop 1).length = l.length - 1 := List.length_drop
      generalize hR : l.drop 1 = r at *
      have hlr : (l.take l.length).drop 1 = r := by rw [List.take_length]; exact hR
      refine fn_of_run (by kernel_rfl) Try.func139 rfl (by kernel_rfl) ?_
      (repeat' first | (refine s_slice (r := r) (1) (l.length) ?_ ?_ ?_ ?_ ?_ (h := ?_); (focus (first | rfl | (simp only [Option.getD_some, Option.getD_none, List.length_map]; omega))); (focus (first | rfl | (simp only [Option.getD_some, Option.getD_none, List.length_map]; omega))); (focus omega); (focus omega); (focus (first | with_reducible rfl | assumption | (simp; done)))) | (refine p_slice (r := r) (1) (l.length) ?_ ?_ ?_ ?_ ?_ (h := ?_); (focus (first | rfl | (simp only [Option.getD_some, Option.getD_none, List.length_map]; omega))); (focus (first | rfl | (simp only [Option.getD_some, Option.getD_none, List.length_map]; omega))); (focus omega); (focus omega); (focus (first | with_reducible rfl | assumption | (simp; done)))) | (refine s_slice_str (r := r) (1) (l.length) ?_ ?_ ?_ ?_ ?_ (h := ?_); (focus (first | rfl | (simp only [Option.getD_some, Option.getD_none, List.length_map]; omega))); (focus (first | rfl | (simp only [Option.getD_some, Option.getD_none, List.length_map]; omega))); (focus omega); (focus omega); (focus (first | with_reducible rfl | assumption | (simp; done)))) | (refine p_slice_str (r := r) (1) (l.length) ?_ ?_ ?_ ?_ ?_ (h := ?_); (focus (first | rfl | (simp only [Option.getD_some, Option.getD_none, List.length_map]; omega))); (focus (first | rfl | (simp only [Option.getD_some, Option.getD_none, List.length_map]; omega))); (focus omega); (focus omega); (focus (first | with_reducible rfl | assumption | (simp; done)))) | (refine s_sliceO (r := r) (1) (l.length) ?_ ?_ ?_ ?_ ?_ (h := ?_); (focus (first | rfl | (simp only [Option.getD_some, Option.getD_none, List.length_map]; omega))); (focus (first | rfl | (simp only [Option.getD_some, Option.getD_none, List.length_map]; omega))); (focus omega); (focus omega); (focus (first | with_reducible rfl | assumption | (simp; done)))) | (refine s_sliceM (r := r) (1) (l.length) ?_ ?_ ?_ ?_ ?_ (h := ?_); (focus (first | rfl | (simp only [Option.getD_some, Option.getD_none, List.length_map]; omega))); (focus (first | rfl | (simp only [Option.getD_some, Option.getD_none, List.length_map]; omega))); (focus omega); (focus omega); (focus (first | with_reducible rfl | assumption | (simp; done)))) | (refine go_ ?_; ((repeat' first | exact True.intro | refine Two.mk ?_ ?_); all_goals intros)) | fail "")
      · refine ends_ (hr := ?_)
        rw [if_pos (by omega), ha]
      refine r_for (fun x : Nat × Nat => ⟨[(4, .lit (.int .i64 x.2)), (34, .ro (r.map encB)), (35, .lit (.int .i64 r.length)), (36, .lit (.int .i64 x.1))], [], 0, Try.f139.ntmps⟩)
        (fun x => x.1 ≤ r.length ∧ x.1 ≤ 9 ∧ x.2 ≤ 4611686018427387903 ∧ pgo (r.drop x.1) x.1 x.2 = pgo r 0 n0) (fun x => r.length - x.1) (0, n0) ⟨Nat.zero_le _, Nat.zero_le _, by omega, rfl⟩ (by (exact lessA_)) ?_
      rw [if_neg (by omega)]
      rintro ⟨k, n⟩ ⟨hk, hk9, hn, hp⟩
      dsimp only at hk hk9 hn hp ⊢
      rw [← hp]
      by_cases hkr : k < r.length
      · rw [pgo_at hkr]
        have hc := (r.getD k default).toNat_lt
        have hc2 := and127 (r.getD k default).toNat (by omega)
        by_cases h9 : k = 9
        · rw [if_pos h9]
          (repeat' first | (refine go_ ?_; ((repeat' first | exact True.intro | refine Two.mk ?_ ?_); all_goals intros)) | fail "")
          all_goals exact ends_ (hr := rfl)
        · rw [if_neg h9]
          obtain ⟨e1, e2⟩ := shl_small ((r.getD k default).toNat % 128) k (by omega) (by omega)
          rw [← hc2] at e1
          rw [pgo_at hkr, if_neg h9] at hp
          generalize (r.getD k default).toNat % 128 * 128 ^ k = m at *
          (repeat' first | (refine go_ ?_; ((repeat' first | exact True.intro | refine Two.mk ?_ ?_); all_goals intros)) | fail "")
          all_goals first
            | (refine ends_ (hr := ?_); rw [if_pos (by omega)])
            | (rw [if_neg (by omega), if_pos (by omega)]; (exact endwA_))
            | (refine ⟨(k + 1, n + m), ?_, ?_, ?_⟩; rotate_left 2; (exact lessA_); (focus (dsimp only; omega)); (focus (exact ⟨hkr, by dsimp only; omega, by dsimp only; omega, by dsimp only; rw [if_neg (by omega), if_neg (by omega)]⟩)))
      · rw [List.drop_of_length_le (by omega)]
        (repeat' first | (refine go_ ?_; ((repeat' first | exact True.intro | refine Two.mk ?_ ?_); all_goals intros)) | fail "")
        all_goals exact ends_ (hr := rfl)
  · unfold preD
    rw [if_pos ho]
    unfold widOk at ho
    refine fn_of_run (by kernel_rfl) Try.func139 rfl (by kernel_rfl) ?_
    (repeat' first | (refine go_ ?_; ((repeat' first | exact True.intro | refine Two.mk ?_ ?_); all_goals intros)) | fail "")
    all_goals exact ends_ (hr := rfl)
theorem i64_of_nat {w : Nat} (h : w ≤ 8) : I64 (w : Int) := by unfold I64; omega
theorem tops (w : Nat) (h1 : 1 ≤ w) (h8 : w ≤ 8) {l : List (List V)} (hl : l = [[.lit (.int .i64 1)], [.lit (.int .i64 3)], [.lit (.int .i64 7)], [.lit (.int .i64 15)], [.lit (.int .i64 31)], [.lit (.int .i64 63)], [.lit (.int .i64 127)], [.lit (.int .i64 255)]]) : eAt l (w - 1) = [.lit (.int .i64 (((2 ^ w : Nat) : Int) - 1))] := by
  subst hl
  rcases (show w = 1 ∨ w = 2 ∨ w = 3 ∨ w = 4 ∨ w = 5 ∨ w = 6 ∨ w = 7 ∨ w = 8 by omega) with rfl | rfl | rfl | rfl | rfl | rfl | rfl | rfl <;> rfl
theorem tmod_nat (a b : Nat) : (a : Int).tmod b = ((a % b : Nat) : Int) := by rw [Int.tmod_eq_emod_of_nonneg (by omega)]; rfl
theorem tdiv_nat (a b : Nat) : (a : Int).tdiv b = ((a / b : Nat) : Int) := by rw [Int.tdiv_eq_ediv_of_nonneg (by omega)]; rfl
set_option maxHeartbeats 1000000 in
theorem prefixOf_fn (l : List UInt8) (w : Int) (hw : I64 w) (hl : l.length ≤ 1000000000000000) : Fn Try.prog 63 [.lit (.string (strB l)), .lit (.int .i64 w)] (.tup [.lit (.int .i64 (preD l w).1), .lit (.int .i64 (preD l w).2.1), .lit (.int .i64 (preD l w).2.2)]) := by
  by_cases ho : widOk w
  · unfold preD
    rw [if_neg (by simpa using ho)]
    unfold widOk at ho
    obtain ⟨w, rfl⟩ := Int.eq_ofNat_of_zero_le (show 0 ≤ w by omega)
    rw [Int.toNat_natCast]
    by_cases h0 : l.length = 0
    · rw [if_pos h0]
      have : l = [] := List.length_eq_zero_iff.1 h0
      subst this
      refine fn_of_run (by kernel_rfl) Try.func63 rfl (by kernel_rfl) ?_
      (repeat' first | (refine s_dec (upTo_fn _ _) (ht := ?_) (hff := ?_) <;> intro _ <;> try (exfalso; omega)) | (refine p_dec (upTo_fn _ _) (ht := ?_) (hff := ?_) <;> intro _ <;> try (exfalso; omega)) | (refine go_ ?_; ((repeat' first | exact True.intro | refine Two.mk ?_ ?_); all_goals intros)) | fail "")
      all_goals first
        | exact ends_ (hr := rfl)
        | (exfalso; rename_i h; exact h rfl)
    · rw [if_neg h0]
      obtain ⟨t1, t2, t3⟩ := top_eq w (by omega)
      have hb := (l.getD 0 default).toNat_lt
      have hT := tops w (by omega) (by omega) rfl
      have hm := Nat.mod_lt (l.getD 0 default).toNat (show 0 < 2 ^ w by omega)
      have ha : ((l.getD 0 default).toNat : Int) % ((2 ^ w : Nat) : Int) = (((l.getD 0 default).toNat % 2 ^ w : Nat) : Int) := rfl
      generalize (l.getD 0 default).toNat % 2 ^ w = n0 at *
      generalize 2 ^ w = T at *
      rw [show (T : Int) = (T : Int) - 1 + 1 by omega] at ha
      refine fn_of_run (by kernel_rfl) Try.func63 rfl (by kernel_rfl) ?_
      (repeat' first | (refine s_dec (upTo_fn _ _) (ht := ?_) (hff := ?_) <;> intro _ <;> try (exfalso; omega)) | (refine p_dec (upTo_fn _ _) (ht := ?_) (hff := ?_) <;> intro _ <;> try (exfalso; omega)) | (refine s_i (hq := q_index_ro (n := w - 1) (cs := [.lit (.int .i64 ((T : Int) - 1))]) rfl rfl rfl ?_ ?_ rfl rfl rfl ?_) (h := ?_); (focus omega); (focus (simp only [List.length_cons, List.length_nil]; omega)); (focus exact hT)) | (refine goI_ ?_; ((repeat' first | exact True.intro | refine Two.mk ?_ ?_); all_goals intros)) | refine s_i (h := ?_) | refine s_i (hq := q_index_ro rfl rfl rfl (by first | exact lit0 | exact lit1 | exact lit2 | exact lit3 | rfl) (by simp only [List.length_cons, List.length_nil]; omega) rfl rfl rfl rfl) (h := ?_) | refine p_i (h := ?_) | refine p_ih (h := ?_) | refine s_lit (h := ?_) | refine p_lit (h := ?_) | refine p_lit0 (h := ?_) | refine s_lit0 (h := ?_) | refine s_ixa (h := ?_) | refine s_insert (h := ?_) | (refine s_sadd rfl ?_ (h := ?_); (focus (first | omega | (simp only [List.length_append, List.length_map, List.length_cons, List.length_nil, List.length_take, List.length_drop]; omega)))) | (refine p_sadd rfl ?_ (h := ?_); (focus (first | omega | (simp only [List.length_append, List.length_map, List.length_cons, List.length_nil, List.length_take, List.length_drop]; omega)))) | fail "")
      · exact absurd (by rw [‹l = []›]; rfl) h0
      · refine ends_ (hr := ?_)
        rw [if_pos (by omega), ha]
      have hr : (l.drop 1).length = l.length - 1 := List.length_drop
      have hg : ∀ k, (l.drop 1).getD k default = l.getD (k + 1) default := fun k => by
        simp only [List.getD_eq_getElem?_getD, List.getElem?_drop]; rw [Nat.add_comm]
      generalize l.drop 1 = r at *
      refine r_for (fun x : Nat × Nat => ⟨[(0, .lit (.string (strB l))), (8, .lit (.int .i64 x.2)), (9, .lit (.int .i64 ((128 ^ min x.1 8 : Nat) : Int))), (10, .lit (.int .i64 ((x.1 + 1 : Nat) : Int)))], [], 0, Try.f63.ntmps⟩)
        (fun x => x.1 ≤ r.length ∧ x.1 ≤ 9 ∧ x.2 ≤ 4611686018427387903 ∧ pgo (r.drop x.1) x.1 x.2 = pgo r 0 n0) (fun x => r.length - x.1) (0, n0) ⟨Nat.zero_le _, Nat.zero_le _, by omega, rfl⟩ (by (exact lessA_)) ?_
      rw [if_neg (by omega)]
      rintro ⟨k, n⟩ ⟨hk, hk9, hn, hp⟩
      dsimp only at hk hk9 hn hp ⊢
      rw [← hp]
      by_cases hkr : k < r.length
      · rw [pgo_at hkr]
        rw [hg k] at *
        have hc := (l.getD (k + 1) default).toNat_lt
        by_cases h9 : k = 9
        · rw [if_pos h9]
          (repeat' first | (refine go_ ?_; ((repeat' first | exact True.intro | refine Two.mk ?_ ?_); all_goals intros)) | fail "")
          all_goals exact ends_ (hr := rfl)
        · rw [if_neg h9]
          obtain ⟨_, e2⟩ := shl_small ((l.getD (k + 1) default).toNat % 128) k (by omega) (by omega)
          rw [pgo_at hkr, if_neg h9, hg k] at hp
          have ht1 : 1 ≤ 128 ^ min k 8 := Nat.pow_pos (by omega)
          have ht2 : 128 ^ min k 8 ≤ 128 ^ 8 := Nat.pow_le_pow_right (by omega) (by omega)
          rw [show (128 : Nat) ^ 8 = 72057594037927936 by decide] at ht2
          have ht3 : k < 8 → 128 ^ min (k + 1) 8 = 128 ^ min k 8 * 128 := fun h => by rw [Nat.min_eq_left (by omega), Nat.min_eq_left (by omega), Nat.pow_succ]
          have ht4 : k = 8 → 128 ^ min (k + 1) 8 = 128 ^ min k 8 := fun h => by subst h; rfl
          have ht5 : k < 8 → 128 ^ min k 8 * 128 ≤ 72057594037927936 := fun h => by
            rw [← ht3 h, show (72057594037927936 : Nat) = 128 ^ 8 by decide]
            exact Nat.pow_le_pow_right (by omega) (by omega)
          have hm : ((l.getD (k + 1) default).toNat : Int) % 128 * ((128 ^ min k 8 : Nat) : Int) = (((l.getD (k + 1) default).toNat % 128 * 128 ^ k : Nat) : Int) := by
            rw [show min k 8 = k by omega]; push_cast; rfl
          have hdiv : (IntKind.i64.wrap ((4611686018427387903 - (n : Int)).tdiv ((128 ^ min k 8 : Nat) : Int)) < ((l.getD (k + 1) default).toNat : Int) % 128) ↔ (4611686018427387903 : Int) < n + (((l.getD (k + 1) default).toNat % 128 * 128 ^ k : Nat) : Int) := by
            have h1 : (4611686018427387903 - (n : Int)).tdiv ((128 ^ min k 8 : Nat) : Int) = (((4611686018427387903 - n) / 128 ^ min k 8 : Nat) : Int) := by
              rw [show 4611686018427387903 - (n : Int) = ((4611686018427387903 - n : Nat) : Int) by omega, tdiv_nat]
            have h2 := Nat.div_le_self (4611686018427387903 - n) (128 ^ min k 8)
            rw [h1, IntKind.wrap_i64]
            have h3 : ((4611686018427387903 - n) / 128 ^ min k 8 < (l.getD (k + 1) default).toNat % 128) ↔ 4611686018427387903 - n < (l.getD (k + 1) default).toNat % 128 * 128 ^ k := by
              rw [Nat.div_lt_iff_lt_mul (by omega), show min k 8 = k by omega]
            generalize (4611686018427387903 - n) / 128 ^ min k 8 = q at *
            generalize (l.getD (k + 1) default).toNat % 128 * 128 ^ k = m at *
            omega
          generalize (l.getD (k + 1) default).toNat % 128 * 128 ^ k = m at *
          generalize 128 ^ min k 8 = t at *
          (repeat' first | (refine go_ ?_; ((repeat' first | exact True.intro | refine Two.mk ?_ ?_); all_goals intros)) | fail "")
          all_goals first
            | (refine ends_ (hr := ?_); rw [if_pos (by omega)])
            | (rw [if_neg (by omega), if_pos (by omega)]; (exact endwA_))
            | (refine ⟨(k + 1, n + m), ?_, ?_, ?_⟩; rotate_left 2; (exact lessA_); (focus (dsimp only; omega)); (focus (exact ⟨hkr, by dsimp only; omega, by dsimp only; omega, by dsimp only; rw [if_neg (by omega), if_neg (by omega)]⟩)))
            | skip
      · rw [List.drop_of_length_le (by omega)]
        (repeat' first | (refine go_ ?_; ((repeat' first | exact True.intro | refine Two.mk ?_ ?_); all_goals intros)) | fail "")
        all_goals exact ends_ (hr := rfl)
  · unfold preD
    rw [if_pos ho]
    unfold widOk at ho
    unfold I64 at hw
    have hx : IntKind.i64.wrap (w - 1) < 0 ∨ 7 < IntKind.i64.wrap (w - 1) := by rw [IntKind.wrap_i64]; omega
    refine fn_of_run (by kernel_rfl) Try.func63 rfl (by kernel_rfl) ?_
    (repeat' first | (refine s_dec (upTo_fn _ _) (ht := ?_) (hff := ?_) <;> intro _ <;> try (exfalso; omega)) | (refine p_dec (upTo_fn _ _) (ht := ?_) (hff := ?_) <;> intro _ <;> try (exfalso; omega)) | (refine go_ ?_; ((repeat' first | exact True.intro | refine Two.mk ?_ ?_); all_goals intros)) | fail "")
    all_goals exact ends_ (hr := rfl)
theorem pgo_ok : ∀ (l : List UInt8) (i n : Nat) {a b : Int}, pgo l i n = (a, b, 0) → ∃ n' k' : Nat, a = n' ∧ b = k' ∧ n' ≤ 4611686018427387903 ∧ i + 2 ≤ k' ∧ k' ≤ i + 1 + l.length
  | [], i, n, a, b, h => by simp [pgo] at h
  | c :: r, i, n, a, b, h => by
    simp only [pgo] at h
    split at h
    · simp at h
    · split at h
      · simp at h
      · split at h
        · simp only [Prod.mk.injEq] at h
          exact ⟨_, _, h.1.symm, h.2.1.symm, by omega, by omega, by simp only [List.length_cons]; omega⟩
        · obtain ⟨n', k', h1, h2, h3, h4, h5⟩ := pgo_ok r _ _ h
          exact ⟨n', k', h1, h2, h3, by omega, by simp only [List.length_cons]; omega⟩
theorem preD_ok {l : List UInt8} {w a b : Int} (h : preD l w = (a, b, 0)) : ∃ n k : Nat, a = n ∧ b = k ∧ n ≤ 4611686018427387903 ∧ 1 ≤ k ∧ k ≤ l.length := by
  unfold preD at h
  split at h
  · simp at h
  · rename_i ho
    split at h
    · simp at h
    · split at h
      · rename_i hlt
        simp only [Prod.mk.injEq] at h
        have hb := (l.getD 0 default).toNat_lt
        have := Nat.mod_le (l.getD 0 default).toNat (2 ^ w.toNat)
        exact ⟨_, 1, h.1.symm, h.2.1.symm, by omega, by omega, by omega⟩
      · obtain ⟨n', k', h1, h2, h3, h4, h5⟩ := pgo_ok _ _ _ h
        rw [List.length_drop] at h5
        exact ⟨n', k', h1, h2, h3, by omega, by omega⟩
/-- P13.4 -/
def txtD (l : List UInt8) (w : Int) : List UInt8 × Int × Int :=
  if (preD l w).2.2 ≠ 0 then ([], 0, (preD l w).2.2) else if 120 < (preD l w).1 then ([], 0, 1) else if (l.length : Int) < (preD l w).2.1 + (preD l w).1 then ([], 0, 4) else
  ((l.take ((preD l w).2.1 + (preD l w).1).toNat).drop (preD l w).2.1.toNat, (preD l w).2.1 + (preD l w).1, 0)
theorem prefixRead_fn (l : List UInt8) (w : Int) (hl : l.length ≤ 1000000000000000) : Fn Try.prog 177 [.ro (l.map encB), .lit (.int .i64 w)] (.tup [.lit (.string (strB (txtD l w).1)), .lit (.int .i64 (txtD l w).2.1), .lit (.int .i64 (txtD l w).2.2)]) := by
  have h1 := prefixDecode_fn l w hl
  unfold txtD
  rcases hp : preD l w with ⟨a, b, e⟩
  rw [hp] at h1
  dsimp only at h1 ⊢
  by_cases he : e = 0
  · subst he
    obtain ⟨n, k, rfl, rfl, hn, hk, hkl⟩ := preD_ok hp
    rw [if_neg (by omega)]
    refine fn_of_run (by kernel_rfl) Try.func177 rfl (by kernel_rfl) ?_
    (repeat' first | (refine s_call (h1) (h := ?_)) | (refine p_call (h1) (h := ?_)) | (refine s_slice (k) ((k + n)) ?_ ?_ ?_ ?_ rfl (h := ?_); (focus (first | rfl | (simp only [Option.getD_some, Option.getD_none, List.length_map]; omega))); (focus (first | rfl | (simp only [Option.getD_some, Option.getD_none, List.length_map]; omega))); (focus omega); (focus omega)) | (refine p_slice (k) ((k + n)) ?_ ?_ ?_ ?_ rfl (h := ?_); (focus (first | rfl | (simp only [Option.getD_some, Option.getD_none, List.length_map]; omega))); (focus (first | rfl | (simp only [Option.getD_some, Option.getD_none, List.length_map]; omega))); (focus omega); (focus omega)) | (refine s_slice_str (k) ((k + n)) ?_ ?_ ?_ ?_ rfl (h := ?_); (focus (first | rfl | (simp only [Option.getD_some, Option.getD_none, List.length_map]; omega))); (focus (first | rfl | (simp only [Option.getD_some, Option.getD_none, List.length_map]; omega))); (focus omega); (focus omega)) | (refine p_slice_str (k) ((k + n)) ?_ ?_ ?_ ?_ rfl (h := ?_); (focus (first | rfl | (simp only [Option.getD_some, Option.getD_none, List.length_map]; omega))); (focus (first | rfl | (simp only [Option.getD_some, Option.getD_none, List.length_map]; omega))); (focus omega); (focus omega)) | (refine s_sliceO (k) ((k + n)) ?_ ?_ ?_ ?_ rfl (h := ?_); (focus (first | rfl | (simp only [Option.getD_some, Option.getD_none, List.length_map]; omega))); (focus (first | rfl | (simp only [Option.getD_some, Option.getD_none, List.length_map]; omega))); (focus omega); (focus omega)) | (refine s_sliceM (k) ((k + n)) ?_ ?_ ?_ ?_ rfl (h := ?_); (focus (first | rfl | (simp only [Option.getD_some, Option.getD_none, List.length_map]; omega))); (focus (first | rfl | (simp only [Option.getD_some, Option.getD_none, List.length_map]; omega))); (focus omega); (focus omega)) | (refine go_ ?_; ((repeat' first | exact True.intro | refine Two.mk ?_ ?_); all_goals intros)) | fail "")
    all_goals refine ends_ (hr := ?_)
    all_goals first
      | rw [if_pos (by omega)] <;> rfl
      | (rw [if_neg (by omega), if_pos (by omega)] <;> rfl)
      | (rw [if_neg (by omega), if_neg (by omega)] <;> rfl)
  · rw [if_pos he]
    refine fn_of_run (by kernel_rfl) Try.func177 rfl (by kernel_rfl) ?_
    (repeat' first | (refine s_call (h1) (h := ?_)) | (refine p_call (h1) (h := ?_)) | (refine go_ ?_; ((repeat' first | exact True.intro | refine Two.mk ?_ ?_); all_goals intros)) | fail "")
    all_goals exact ends_ (hr := rfl)
theorem textOf_fn (l : List UInt8) (w : Int) (hw : I64 w) (hl : l.length ≤ 1000000000000000) : Fn Try.prog 146 [.lit (.string (strB l)), .lit (.int .i64 w)] (.tup [.lit (.string (strB (txtD l w).1)), .lit (.int .i64 (txtD l w).2.1), .lit (.int .i64 (txtD l w).2.2)]) := by
  have h1 := prefixOf_fn l w hw hl
  unfold txtD
  rcases hp : preD l w with ⟨a, b, e⟩
  rw [hp] at h1
  dsimp only at h1 ⊢
  by_cases he : e = 0
  · subst he
    obtain ⟨n, k, rfl, rfl, hn, hk, hkl⟩ := preD_ok hp
    rw [if_neg (by omega)]
    refine fn_of_run (by kernel_rfl) Try.func146 rfl (by kernel_rfl) ?_
    (repeat' first | (refine s_call (h1) (h := ?_)) | (refine p_call (h1) (h := ?_)) | (refine s_slice (k) ((k + n)) ?_ ?_ ?_ ?_ rfl (h := ?_); (focus (first | rfl | (simp only [Option.getD_some, Option.getD_none, List.length_map]; omega))); (focus (first | rfl | (simp only [Option.getD_some, Option.getD_none, List.length_map]; omega))); (focus omega); (focus omega)) | (refine p_slice (k) ((k + n)) ?_ ?_ ?_ ?_ rfl (h := ?_); (focus (first | rfl | (simp only [Option.getD_some, Option.getD_none, List.length_map]; omega))); (focus (first | rfl | (simp only [Option.getD_some, Option.getD_none, List.length_map]; omega))); (focus omega); (focus omega)) | (refine s_slice_str (k) ((k + n)) ?_ ?_ ?_ ?_ rfl (h := ?_); (focus (first | rfl | (simp only [Option.getD_some, Option.getD_none, List.length_map]; omega))); (focus (first | rfl | (simp only [Option.getD_some, Option.getD_none, List.length_map]; omega))); (focus omega); (focus omega)) | (refine p_slice_str (k) ((k + n)) ?_ ?_ ?_ ?_ rfl (h := ?_); (focus (first | rfl | (simp only [Option.getD_some, Option.getD_none, List.length_map]; omega))); (focus (first | rfl | (simp only [Option.getD_some, Option.getD_none, List.length_map]; omega))); (focus omega); (focus omega)) | (refine s_sliceO (k) ((k + n)) ?_ ?_ ?_ ?_ rfl (h := ?_); (focus (first | rfl | (simp only [Option.getD_some, Option.getD_none, List.length_map]; omega))); (focus (first | rfl | (simp only [Option.getD_some, Option.getD_none, List.length_map]; omega))); (focus omega); (focus omega)) | (refine s_sliceM (k) ((k + n)) ?_ ?_ ?_ ?_ rfl (h := ?_); (focus (first | rfl | (simp only [Option.getD_some, Option.getD_none, List.length_map]; omega))); (focus (first | rfl | (simp only [Option.getD_some, Option.getD_none, List.length_map]; omega))); (focus omega); (focus omega)) | (refine go_ ?_; ((repeat' first | exact True.intro | refine Two.mk ?_ ?_); all_goals intros)) | fail "")
    all_goals refine ends_ (hr := ?_)
    all_goals first
      | rw [if_pos (by omega)] <;> rfl
      | (rw [if_neg (by omega), if_pos (by omega)] <;> rfl)
      | (rw [if_neg (by omega), if_neg (by omega)] <;> rfl)
  · rw [if_pos he]
    refine fn_of_run (by kernel_rfl) Try.func146 rfl (by kernel_rfl) ?_
    (repeat' first | (refine s_call (h1) (h := ?_)) | (refine p_call (h1) (h := ?_)) | (refine go_ ?_; ((repeat' first | exact True.intro | refine Two.mk ?_ ?_); all_goals intros)) | fail "")
    all_goals exact ends_ (hr := rfl)
end Go.Proofs.Ythpophgcmgdpjaa
