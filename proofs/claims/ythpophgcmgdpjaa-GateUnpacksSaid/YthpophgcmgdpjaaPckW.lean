/-
  packno.Whole and the reference's WholeNumber: what each answers. No condition.
-/
import Derived.Test.YthpophgcmgdpjaaGo
import Derived.Test.YthpophgcmgdpjaaBits
import Derived.Test.YthpophgcmgdpjaaHeadO
import Derived.Laws.BitsAllLaws
set_option linter.unusedVariables false
set_option linter.unusedSimpArgs false
set_option linter.unusedVariables false
namespace Go.Proofs.Ythpophgcmgdpjaa
set_option maxRecDepth 100000
attribute [local irreducible] Run RunL QStep GStep Fn Less PL FnM

theorem ofIntN (n : Nat) (hn : n < 9223372036854775808) : (BitVec.ofInt 64 (n : Int)).toNat = n := by
  rw [BitVec.ofInt_natCast, BitVec.toNat_ofNat]
  exact Nat.mod_eq_of_lt (by omega)
theorem orJoin (a c m : Nat) (hc : c < 2 ^ m) (ha : a * 2 ^ m + c < 9223372036854775808) : bitsI .or .i64 ((a * 2 ^ m : Nat) : Int) (c : Int) = ((a * 2 ^ m + c : Nat) : Int) := by
  have hx : a * 2 ^ m ||| c = a * 2 ^ m + c := by rw [Nat.mul_comm, Nat.two_pow_add_eq_or_of_lt hc]
  show IntKind.i64.wrap ((BitVec.ofInt 64 ((a * 2 ^ m : Nat) : Int) ||| BitVec.ofInt 64 (c : Int)).toNat : Int) = _
  rw [BitVec.toNat_or, ofIntN _ (by omega), ofIntN _ (by omega), hx, IntKind.wrap_i64]
  omega
theorem maskOff (n m : Nat) (hn : n < 9223372036854775808) (hm : m ≤ 62) : bitsI .andNot .i64 (n : Int) ((2 ^ m - 1 : Nat) : Int) = ((n / 2 ^ m * 2 ^ m : Nat) : Int) := by
  have h1 : 2 ^ m ≤ 2 ^ 62 := Nat.pow_le_pow_right (by decide) hm
  have h2 : (2 : Nat) ^ 62 = 4611686018427387904 := by decide
  have h3 : 0 < 2 ^ m := Nat.pow_pos (by decide)
  have h4 : n / 2 ^ m * 2 ^ m ≤ n := Nat.div_mul_le_self _ _
  have hx : n &&& (2 ^ 64 - 1 - (2 ^ m - 1)) = n / 2 ^ m * 2 ^ m := by
    have := nat_midmask 64 m n (by omega)
    rw [Nat.mod_eq_of_lt (by omega)] at this
    rw [show 2 ^ 64 - 1 - (2 ^ m - 1) = 2 ^ 64 - 2 ^ m from by omega]
    exact this
  show IntKind.i64.wrap ((BitVec.ofInt 64 (n : Int) &&& ~~~ BitVec.ofInt 64 ((2 ^ m - 1 : Nat) : Int)).toNat : Int) = _
  rw [BitVec.toNat_and, BitVec.toNat_not, ofIntN _ (by omega), ofIntN _ (by omega), hx, IntKind.wrap_i64]
  omega
/-- P2.2 -/
def wholeN (N win low : Nat) : Int :=
  if ((N / win * win + low : Nat) : Int) ≤ (N : Int) - (win / 2 : Nat) ∧ ((N / win * win + low : Nat) : Int) + win < 4611686018427387904 then ((N / win * win + low : Nat) : Int) + win
  else if (N : Int) + (win / 2 : Nat) < ((N / win * win + low : Nat) : Int) ∧ (win : Int) ≤ ((N / win * win + low : Nat) : Int) then ((N / win * win + low : Nat) : Int) - win
  else ((N / win * win + low : Nat) : Int)
def wholeR (top : Int) (b : List UInt8) : Int × Int :=
  if b.length < 1 ∨ 4 < b.length then (0, 1) else if top < -1 ∨ 4611686018427387903 < top then (0, 6)
  else (wholeN (top + 1).toNat (256 ^ b.length) (numG 0 b), 0)
def encWh (r : Int × Int) : V := .tup [.lit (.int .i64 r.1), .lit (.int .i64 r.2)]
theorem win_shl (k : Nat) (h : k ≤ 4) : IntKind.i64.wrap (1 * 2 ^ min (8 * (k : Int)).toNat IntKind.i64.bits) = ((256 ^ k : Nat) : Int) := by
  rcases (show k = 0 ∨ k = 1 ∨ k = 2 ∨ k = 3 ∨ k = 4 by omega) with rfl | rfl | rfl | rfl | rfl <;> decide
theorem win_even {k : Nat} (h1 : 1 ≤ k) (h : k ≤ 4) : ∃ H, 256 ^ k = 2 * H ∧ 128 ≤ H ∧ H ≤ 2147483648 := by
  rcases (show k = 1 ∨ k = 2 ∨ k = 3 ∨ k = 4 by omega) with rfl | rfl | rfl | rfl
  · exact ⟨128, by decide, by decide, by decide⟩
  · exact ⟨32768, by decide, by decide, by decide⟩
  · exact ⟨8388608, by decide, by decide, by decide⟩
  · exact ⟨2147483648, by decide, by decide, by decide⟩
theorem tdivN2 (a b : Nat) : (a : Int).tdiv b = ((a / b : Nat) : Int) := by rw [Int.tdiv_eq_ediv_of_nonneg (by omega)]; rfl
theorem tmodN2 (a b : Nat) : (a : Int).tmod b = ((a % b : Nat) : Int) := by rw [Int.tmod_eq_emod_of_nonneg (by omega)]; rfl
set_option maxHeartbeats 4000000 in
theorem whole_fn (top : Int) (b : List UInt8) (ht : I64 top) (hb : b.length ≤ 1000000000000) : Fn Try.prog 106 [.lit (.int .i64 top), .ro (b.map encB)] (encWh (wholeR top b)) := by
  unfold I64 at ht
  unfold wholeR encWh
  by_cases c1 : b.length < 1 ∨ 4 < b.length
  · rw [if_pos c1]
    refine fn_of_run (by kernel_rfl) Try.func106 rfl (by kernel_rfl) ?_
    (repeat' first | (refine go_ ?_; ((repeat' first | exact True.intro | refine Two.mk ?_ ?_); all_goals intros)) | fail "")
    all_goals first
      | (exact endwA_)
      | (exfalso; omega)
      | skip
  · rw [if_neg c1]
    by_cases c2 : top < -1 ∨ 4611686018427387903 < top
    · rw [if_pos c2]
      refine fn_of_run (by kernel_rfl) Try.func106 rfl (by kernel_rfl) ?_
      (repeat' first | (refine go_ ?_; ((repeat' first | exact True.intro | refine Two.mk ?_ ?_); all_goals intros)) | fail "")
      all_goals first
        | (exact endwA_)
        | (exfalso; omega)
        | skip
    · rw [if_neg c2]
      obtain ⟨N, hN⟩ := Int.eq_ofNat_of_zero_le (show 0 ≤ top + 1 by omega)
      have hws := win_shl b.length (by omega)
      obtain ⟨H, hH, hH1, hH2⟩ := win_even (k := b.length) (by omega) (by omega)
      have hnl := numG_lt 0 b
      have hmo := maskOff N (8 * b.length) (by omega) (by omega)
      rw [show (2 : Nat) ^ (8 * b.length) = 256 ^ b.length by rw [Nat.pow_mul]] at hmo
      have hor : ∀ low : Nat, low < 256 ^ b.length → bitsI .or .i64 ((N / 256 ^ b.length * 256 ^ b.length : Nat) : Int) (low : Int) = ((N / 256 ^ b.length * 256 ^ b.length + low : Nat) : Int) := fun low hlow => by
        have hdm := Nat.div_mul_le_self N (256 ^ b.length)
        have := orJoin (N / 256 ^ b.length) low (8 * b.length) (by rw [Nat.pow_mul]; exact hlow) (by rw [show (2 : Nat) ^ (8 * b.length) = 256 ^ b.length by rw [Nat.pow_mul]]; omega)
        rwa [show (2 : Nat) ^ (8 * b.length) = 256 ^ b.length by rw [Nat.pow_mul]] at this
      have hdm := Nat.div_mul_le_self N (256 ^ b.length)
      rw [Nat.zero_add, Nat.one_mul] at hnl
      have hor := hor (numG 0 b) hnl
      have h8 : ∀ m : Nat, m < 18014398509481984 → ∀ c : Nat, c < 256 → bitsI .or .i64 (IntKind.i64.wrap ((m : Int) * 2 ^ min (8 : Int).toNat IntKind.i64.bits)) (c : Int) = ((m * 256 + c : Nat) : Int) := fun m hm c hc => by rw [shl8 m hm]; exact or64b m c hc hm
      rw [hN, Int.toNat_natCast]
      have htop : top = (N : Int) - 1 := by omega
      unfold wholeN
      refine fn_of_run (by kernel_rfl) Try.func106 rfl (by kernel_rfl) ?_
      (repeat' first | (refine go_ ?_; ((repeat' first | exact True.intro | refine Two.mk ?_ ?_); all_goals intros)) | fail "")
      rw [hws]
      generalize hW : 256 ^ b.length = W at *
      refine r_for (fun j : Nat => ⟨[(0, .lit (.int .i64 top)), (6, .lit (.int .i64 W)), (7, .lit (.int .i64 ((numG 0 (b.take j) : Nat) : Int))), (30, .ro (b.map encB)), (31, .lit (.int .i64 b.length)), (32, .lit (.int .i64 j))], [], 0, Try.f106.ntmps⟩)
        (fun j => j ≤ b.length) (fun j => b.length - j) 0 (Nat.zero_le _) (by rw [show numG 0 (b.take 0) = 0 from rfl]; (exact lessA_)) ?_
      intro j hj
      by_cases hjr : j < b.length
      · have hc := (b.getD j default).toNat_lt
        have hg := numG_lt 0 (b.take j)
        rw [List.length_take, Nat.min_eq_left hj] at hg
        have hp : (0 + 1) * 256 ^ j ≤ 1 * 256 ^ 4 := Nat.mul_le_mul (by omega) (Nat.pow_le_pow_right (by omega) (by omega))
        have h7 : 1 * (256 : Nat) ^ 4 = 4294967296 := by decide
        have e : numG 0 (b.take (j + 1)) = numG 0 (b.take j) * 256 + (b.getD j default).toNat := by rw [take_snoc hjr, numG_snoc]
        have e2 := h8 (numG 0 (b.take j)) (by omega) (b.getD j default).toNat (by omega)
        rw [← e] at e2
        generalize numG 0 (b.take j) = m at *
        clear e hg hp h7 hmo hor hdm hnl hH
        (repeat' first | (refine go_ ?_; ((repeat' first | exact True.intro | refine Two.mk ?_ ?_); all_goals intros)) | fail "")
        all_goals (rw [e2]; (refine ⟨j + 1, ?_, ?_, ?_⟩; rotate_left 2; (exact lessA_); (focus (omega)); (focus (omega))))
      · have : j = b.length := by omega
        subst this
        rw [List.take_length]
        have hmo2 : bitsI .andNot .i64 (top + 1) ((W : Int) - 1) = ((N / W * W : Nat) : Int) := by rw [← hmo, hN, show ((W - 1 : Nat) : Int) = (W : Int) - 1 by omega]
        have hor2 : bitsI .or .i64 (bitsI .andNot .i64 (top + 1) ((W : Int) - 1)) ((numG 0 b : Nat) : Int) = ((N / W * W + numG 0 b : Nat) : Int) := by rw [hmo2]; exact hor
        have hq : (W : Int).tdiv 2 = (H : Int) := by rw [hH]; show ((2 * H : Nat) : Int).tdiv ((2 : Nat) : Int) = _; rw [tdivN2]; congr 1; omega
        have hw2 : W / 2 = H := by omega
        rw [hw2]
        have hX : N / W * W + numG 0 b < 4611686022722355200 := by omega
        generalize numG 0 b = L at *
        generalize N / W * W + L = X at *
        clear hmo hmo2 hor h8 hws
        (repeat' first | (refine go_ ?_; ((repeat' first | exact True.intro | refine Two.mk ?_ ?_); all_goals intros)) | fail "")
        all_goals first
          | (rw [if_pos (by omega)]; (exact endwA_))
          | (rw [if_neg (by omega), if_pos (by omega)]; (exact endwA_))
          | (rw [if_neg (by omega), if_neg (by omega)]; (exact endwA_))
          | skip
set_option maxHeartbeats 4000000 in
theorem wholeNumber_fn (top : Int) (b : List UInt8) (ht : I64 top) (hb : b.length ≤ 1000000000000) : Fn Try.prog 109 [.lit (.int .i64 top), .ro (b.map encB)] (encWh (wholeR top b)) := by
  unfold I64 at ht
  unfold wholeR encWh
  by_cases c1 : b.length < 1 ∨ 4 < b.length
  · rw [if_pos c1]
    refine fn_of_run (by kernel_rfl) Try.func109 rfl (by kernel_rfl) ?_
    (repeat' first | (refine go_ ?_; ((repeat' first | exact True.intro | refine Two.mk ?_ ?_); all_goals intros)) | fail "")
    all_goals first
      | (exact endwA_)
      | (exfalso; omega)
      | skip
  · rw [if_neg c1]
    by_cases c2 : top < -1 ∨ 4611686018427387903 < top
    · rw [if_pos c2]
      refine fn_of_run (by kernel_rfl) Try.func109 rfl (by kernel_rfl) ?_
      (repeat' first | (refine go_ ?_; ((repeat' first | exact True.intro | refine Two.mk ?_ ?_); all_goals intros)) | fail "")
      all_goals first
        | (exact endwA_)
        | (exfalso; omega)
        | skip
    · rw [if_neg c2]
      obtain ⟨N, hN⟩ := Int.eq_ofNat_of_zero_le (show 0 ≤ top + 1 by omega)
      have hws := win_shl b.length (by omega)
      obtain ⟨H, hH, hH1, hH2⟩ := win_even (k := b.length) (by omega) (by omega)
      have hnl := numG_lt 0 b
      rw [Nat.zero_add, Nat.one_mul] at hnl
      have hdm := Nat.div_mul_le_self N (256 ^ b.length)
      have hdd := Nat.div_add_mod N (256 ^ b.length)
      have h2 := num_fn b (by omega)
      rw [hN, Int.toNat_natCast]
      have htop : top = (N : Int) - 1 := by omega
      unfold wholeN
      have hwr : IntKind.i64.wrap ((numG 0 b : Nat) : Int) = ((numG 0 b : Nat) : Int) := by rw [IntKind.wrap_i64]; omega
      refine fn_of_run (by kernel_rfl) Try.func109 rfl (by kernel_rfl) ?_
      (repeat' first | (refine go_ ?_; ((repeat' first | exact True.intro | refine Two.mk ?_ ?_); all_goals intros)) | fail "")
      rw [hws]
      generalize hW : 256 ^ b.length = W at *
      have hq : (W : Int).tdiv 2 = (H : Int) := by rw [hH]; show ((2 * H : Nat) : Int).tdiv ((2 : Nat) : Int) = _; rw [tdivN2]; congr 1; omega
      have hr : (top + 1) % (W : Int) = ((N % W : Nat) : Int) := by rw [hN]; exact (Int.natCast_emod N W).symm
      have hml : N % W < W := Nat.mod_lt _ (by omega)
      have hw2 : W / 2 = H := by omega
      rw [hw2]
      rw [Nat.mul_comm W] at hdd
      have hX : N / W * W + numG 0 b < 4611686022722355200 := by omega
      generalize numG 0 b = L at *
      generalize hY : N / W * W = Y at *
      generalize N % W = M at *
      clear hws
      (repeat' first | (refine s_call (h2) (h := ?_)) | (refine p_call (h2) (h := ?_)) | (refine go_ ?_; ((repeat' first | exact True.intro | refine Two.mk ?_ ?_); all_goals intros)) | fail "")
      all_goals simp only [IntKind.wrap_i64] at *
      all_goals first
        | (rw [if_pos (by omega)]; (exact endwA_))
        | (rw [if_neg (by omega), if_pos (by omega)]; (exact endwA_))
        | (rw [if_neg (by omega), if_neg (by omega)]; (exact endwA_))
        | (exfalso; omega)
        | skip
end Go.Proofs.Ythpophgcmgdpjaa
