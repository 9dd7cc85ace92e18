/-
  varint.Decode and the reference's VarOf, number: what each answers. No condition.
-/
import Derived.Test.YtmfpfpllipogiaaRep
set_option linter.unusedSimpArgs false
set_option linter.unusedVariables false
namespace Go.Proofs.Ytmfpfpllipogiaa
open Go.RowKit

/-- the number that bytes tell, the highest first -/
def beVal : List UInt8 → Nat → Nat
  | [], n => n
  | c :: l, n => beVal l (n * 256 + c.toNat)

/-- what is read of a number behind its first i + 1 bytes -/
def decAcc (l : List UInt8) : Nat → Nat
  | 0 => byteAt l 0 % 64
  | i + 1 => decAcc l i * 256 + byteAt l (i + 1)

/-- P1.3: the number, how many bytes, the error -/
def varSize (l : List UInt8) : Nat := 2 ^ (byteAt l 0 / 64)
def varDec (l : List UInt8) : Nat × Nat × Int :=
  if l.length = 0 then (0, 0, 4) else if l.length < varSize l then (0, 0, 4) else (decAcc l (varSize l - 1), varSize l, 0)
def eVar (r : Nat × Nat × Int) : Ending := .returned (.tuple #[.int .i64 r.1, .int .i64 r.2.1, .int .i64 r.2.2])

/-- the bytes that a number of n has behind its first ones -/
theorem decAcc_lt (l : List UInt8) : ∀ k, k < 7 → decAcc l k < 18014398509481984 := by
  have h : ∀ k, decAcc l k < 64 * 256 ^ k := by
    intro k
    induction k with
    | zero => show byteAt l 0 % 64 < 64 * 256 ^ 0; omega
    | succ k ih =>
      have hb := byteAt_lt l (k + 1)
      show decAcc l k * 256 + byteAt l (k + 1) < 64 * 256 ^ (k + 1)
      rw [Nat.pow_succ]
      omega
  intro k hk
  have h1 := h k
  have h2 : (256 : Nat) ^ k ≤ 256 ^ 6 := Nat.pow_le_pow_right (by decide) (by omega)
  have h3 : (256 : Nat) ^ 6 = 281474976710656 := by decide
  omega
theorem dec_or (a c : Nat) (ha : a < 18014398509481984) (hc : c < 256) : bits .or .i64 ((a : Int) * 256) (c : Int) = ((a * 256 + c : Nat) : Int) := by
  have e : ((a : Int) * 256) = ((a * 256 : Nat) : Int) := by omega
  rw [e]
  have hx : a * 256 ||| c = a * 256 + c := by
    rw [show (256 : Nat) = 2 ^ 8 from rfl] at *
    rw [Nat.mul_comm, Nat.two_pow_add_eq_or_of_lt hc]
  have h1 : ∀ n : Nat, n < 9223372036854775808 → (BitVec.ofInt 64 (n : Int)).toNat = n := fun n hn => by
    rw [BitVec.ofInt_natCast, BitVec.toNat_ofNat]
    exact Nat.mod_eq_of_lt (by omega)
  show IntKind.i64.wrap ((BitVec.ofInt 64 ((a * 256 : Nat) : Int) ||| BitVec.ofInt 64 (c : Int)).toNat : Int) = _
  rw [BitVec.toNat_or, h1 _ (by omega), h1 _ (by omega), hx, IntKind.wrap_i64]
  omega
theorem byteAt_div (l : List UInt8) (i : Nat) : byteAt l i / 64 = 0 ∨ byteAt l i / 64 = 1 ∨ byteAt l i / 64 = 2 ∨ byteAt l i / 64 = 3 := by
  have := byteAt_lt l i
  omega
theorem varSize_pos (l : List UInt8) : 1 ≤ varSize l := by
  unfold varSize
  rcases byteAt_div l 0 with h | h | h | h <;> rw [h] <;> first | decide | (simp [wrap64]; done) | decide +kernel
theorem varSize_le (l : List UInt8) : varSize l ≤ 8 := by
  unfold varSize
  rcases byteAt_div l 0 with h | h | h | h <;> rw [h] <;> first | decide | (simp [wrap64]; done) | decide +kernel
theorem varSize_wrap (l : List UInt8) : wrap64 (2 ^ (byteAt l 0 / 64)) = (varSize l : Int) := by
  unfold varSize
  rcases byteAt_div l 0 with h | h | h | h <;> rw [h] <;> first | decide | (simp [wrap64]; done) | decide +kernel

set_option maxHeartbeats 1000000 in
theorem varDecode_calls (S : Foot) (v : Value) (l : List UInt8) (w : World) (h : RBytes S w [v] l) :
    Calls Try.prog 19 #[v] w fun e w' => e = eVar (varDec l) ∧ w = w' := by
  obtain ⟨A, c, hv, hl, hcr, hl47, he⟩ := h.at_
  injection hv with hv _
  subst hv
  clear h
  by_cases h0 : l.length = 0
  · have HE := Lib.hid (show eVar (varDec l) = eVar (0, 0, 4) by unfold varDec; rw [if_pos h0])
    have hz : ((l.length : Int) == 0) = true := by simp [h0]
    clear he h0
    go_enter Try.func19, Try.ntmps19
    go_wp2
    go_ret3
    exact ⟨by rw [HE.out]; rfl, rfl⟩
  · obtain ⟨b, off, rfl, hS, hc⟩ := he (by omega)
    clear he
    have c0 := hc 0 (by omega)
    rw [Nat.add_zero] at c0
    have hz : ((l.length : Int) == 0) = false := by rw [beq_eq_false_iff_ne]; omega
    have hpos : (0 : Int) < (l.length : Int) := by omega
    have hb0 : byteAt l 0 < 256 := byteAt_lt l 0
    obtain ⟨K, hK, hK1, hK8⟩ : ∃ K : Nat, varSize l = K ∧ 1 ≤ K ∧ K ≤ 8 := ⟨_, rfl, varSize_pos l, varSize_le l⟩
    have hk : wrap64 (2 ^ (byteAt l 0 / 64)) = (K : Int) := by rw [← hK]; exact varSize_wrap l
    have hKI : (1 : Int) ≤ (K : Int) := by omega
    have hKJ : (0 : Int) ≤ (K : Int) := by omega
    have hV : varDec l = if l.length < K then (0, 0, 4) else (decAcc l (K - 1), K, 0) := by unfold varDec; rw [if_neg h0, hK]
    have HV := Lib.hid hV
    have HC := Lib.hid hc
    have HK := Lib.hid hK
    have H0 := Lib.hid h0
    clear hc hV hK h0
    generalize hB : byteAt l 0 = B at *
    have HB := Lib.hid hB
    clear hB
    by_cases hlt : l.length < K
    · have hd : decide ((l.length : Int) < (K : Int)) = true := by simp; omega
      go_enter Try.func19, Try.ntmps19
      go_wp2
      go_ret3
      exact ⟨by rw [HV.out, if_pos hlt]; rfl, rfl⟩
    · have hd : decide ((l.length : Int) < (K : Int)) = false := by simp; omega
      have hle : (K : Int) ≤ (l.length : Int) := by omega
      have hle2 : (K : Int) ≤ (c : Int) := by omega
      have HN := Lib.hid hlt
      clear hlt
      by_cases hc1 : c = 1
      · have hK0 : (K : Int) ≤ 1 := by omega
        subst hc1
        have HD : Hid (decAcc l (K - 1) = B % 64) := by
          have : K - 1 = 0 := by omega
          rw [this]
          show decAcc l 0 = B % 64
          rw [← HB.out]; rfl
        go_enter Try.func19, Try.ntmps19
        go_wp2
        go_rounds 1
        go_ret3
        exact ⟨by rw [HV.out, if_neg HN.out, HD.out]; simp [eVar], rfl⟩
      · have hc2 : (c = 1) = False := by simp [hc1]
        go_enter Try.func19, Try.ntmps19
        go_wp2
        go_loop [2, 29] (fun n i => ∃ k : Nat, k ≤ K - 1 ∧ i = .int .i64 k ∧ n = .int .i64 (decAcc l k)) (fun _ i => K - (intOf i).toNat)
        case atStart => exact ⟨0, by omega, by go_num, by rw [show decAcc l 0 = B % 64 by rw [← HB.out]; rfl]; go_num⟩
        case round =>
          obtain ⟨k, hk, rfl, rfl⟩ := hrel
          by_cases hkk : k < K - 1
          · have hx := HC.out (k + 1) (by omega)
            rw [← Nat.add_assoc, Nat.add_right_comm] at hx
            have hb1 := decAcc_lt l k (by omega)
            have hb2 := byteAt_lt l (k + 1)
            have hor := dec_or (decAcc l k) (byteAt l (k + 1)) hb1 hb2
            generalize hA : decAcc l k = A at *
            generalize hB2 : byteAt l (k + 1) = B2 at *
            have HA := Lib.hid hA
            have HB2 := Lib.hid hB2
            clear hA hB2
            go_wp2
            refine ⟨⟨k + 1, by omega, by go_num, ?_⟩, by simp [intOf]; omega⟩
            rw [show decAcc l (k + 1) = A * 256 + B2 by rw [← HA.out, ← HB2.out]; rfl]
            go_num
          · have hke : k = K - 1 := by omega
            have HF : Hid (eVar (varDec l) = .returned (.tuple #[.int .i64 (decAcc l k), .int .i64 K, .int .i64 0])) := by
              rw [HV.out, if_neg HN.out, hke]
              rfl
            have hkI : ((K - 1 : Nat) : Int) ≤ (k : Int) := by omega
            clear hke
            generalize decAcc l k = A at *
            go_wp2
            go_ret3
            exact ⟨HF.out.symm, rfl⟩

/-- the reference's number of the first k bytes: a word that goes round -/
def beU (l : List UInt8) : Nat → Nat
  | 0 => 0
  | k + 1 => (beU l k * 256 + byteAt l k) % 18446744073709551616
theorem beU_lt (l : List UInt8) (k : Nat) : beU l k < 18446744073709551616 := by
  cases k with
  | zero => show 0 < 18446744073709551616; omega
  | succ k => exact Nat.mod_lt _ (by omega)
theorem beU_step (a c : Nat) : IntKind.u64.wrap (IntKind.u64.wrap ((a : Int) * 256) + (c : Int)) = (((a * 256 + c) % 18446744073709551616 : Nat) : Int) := by
  simp only [IntKind.wrap_u64]
  omega

set_option maxHeartbeats 1000000 in
theorem number_calls (s : ByteArray) (w : World) (hs : s.size ≤ 140737488355328) :
    Calls Try.prog 55 #[.string s] w fun e w' => e = .returned (.int .u64 (beU s.data.toList s.size)) ∧ w = w' := by
  have hat := get_at s
  go_enter Try.func55, Try.ntmps55
  go_wp2
  go_loop [3, 4] (fun n i => ∃ k : Nat, k ≤ s.size ∧ i = .int .i64 k ∧ n = .int .u64 (beU s.data.toList k)) (fun _ i => s.size - (intOf i).toNat)
  case atStart => exact ⟨0, by omega, by go_num, rfl⟩
  case round =>
    obtain ⟨k, hk, rfl, rfl⟩ := hrel
    have hb := byteAt_lt s.data.toList k
    have hst := beU_step (beU s.data.toList k) (byteAt s.data.toList k)
    have HN := Lib.hid (show beU s.data.toList (k + 1) = (beU s.data.toList k * 256 + byteAt s.data.toList k) % 18446744073709551616 from rfl)
    generalize hA : beU s.data.toList k = A at *
    have HA := Lib.hid hA
    clear hA
    by_cases hkk : k < s.size
    · go_wp2
      refine ⟨⟨k + 1, by omega, by go_num, ?_⟩, by simp [intOf]; omega⟩
      rw [HN.out]
      first | rfl | rw [hst]
    · have hke : k = s.size := by omega
      have HF := Lib.hid (show beU s.data.toList s.size = A by rw [← hke]; exact HA.out)
      clear hke
      go_wp2
      go_ret
      exact ⟨by rw [HF.out]; rfl, rfl⟩

/-- how many bytes, as the reference has it -/
theorem varSize_of {l : List UInt8} {q : Nat} (h : byteAt l 0 / 64 = q) : varSize l = 2 ^ q := by unfold varSize; rw [h]

theorem byteAt_take (l : List UInt8) (k i : Nat) (h : i < k) : byteAt (l.take k) i = byteAt l i := by
  unfold byteAt
  rw [List.getD_eq_getElem?_getD, List.getD_eq_getElem?_getD, List.getElem?_take_of_lt h]
theorem beU_take (l : List UInt8) (k : Nat) : ∀ i, i ≤ k → beU (l.take k) i = beU l i := by
  intro i
  induction i with
  | zero => intro _; rfl
  | succ i ih =>
    intro h
    show (beU (l.take k) i * 256 + byteAt (l.take k) i) % _ = _
    rw [ih (by omega), byteAt_take l k i (by omega)]
    rfl
theorem dec_1 (l : List UInt8) : beU l 1 % 64 = decAcc l 0 := by
  have h0 := byteAt_lt l 0
  show (0 * 256 + byteAt l 0) % 18446744073709551616 % 64 = byteAt l 0 % 64
  omega
theorem dec_2 (l : List UInt8) : beU l 2 % 16384 = decAcc l 1 := by
  have h0 := byteAt_lt l 0
  have h1 := byteAt_lt l 1
  show ((0 * 256 + byteAt l 0) % 18446744073709551616 * 256 + byteAt l 1) % 18446744073709551616 % 16384 = byteAt l 0 % 64 * 256 + byteAt l 1
  omega
theorem beU_small (l : List UInt8) : ∀ k, k ≤ 8 → beU l k < 256 ^ k := by
  intro k
  induction k with
  | zero => intro _; show 0 < 256 ^ 0; omega
  | succ k ih =>
    intro h
    have h1 := ih (by omega)
    have h2 := byteAt_lt l k
    have h3 : (256 : Nat) ^ (k + 1) ≤ 256 ^ 8 := Nat.pow_le_pow_right (by decide) h
    have h4 : (256 : Nat) ^ 8 = 18446744073709551616 := by decide
    show (beU l k * 256 + byteAt l k) % 18446744073709551616 < 256 ^ (k + 1)
    rw [Nat.pow_succ] at h3 ⊢
    rw [Nat.mod_eq_of_lt (by omega)]
    omega
theorem beU_succ (l : List UInt8) (k : Nat) (h : k < 8) : beU l (k + 1) = beU l k * 256 + byteAt l k := by
  have h1 := beU_small l k (by omega)
  have h2 := byteAt_lt l k
  have h3 : (256 : Nat) ^ (k + 1) ≤ 256 ^ 8 := Nat.pow_le_pow_right (by decide) h
  have h4 : (256 : Nat) ^ 8 = 18446744073709551616 := by decide
  rw [Nat.pow_succ] at h3
  show (beU l k * 256 + byteAt l k) % 18446744073709551616 = _
  exact Nat.mod_eq_of_lt (by omega)
theorem dec_of (l : List UInt8) : ∀ k, k < 8 → beU l (k + 1) % (64 * 256 ^ k) = decAcc l k := by
  intro k
  induction k with
  | zero => intro _; exact dec_1 l
  | succ k ih =>
    intro h
    have h1 := ih (by omega)
    have h2 := byteAt_lt l (k + 1)
    rw [beU_succ l (k + 1) h, Nat.pow_succ]
    show _ = decAcc l k * 256 + byteAt l (k + 1)
    rw [← h1, show 64 * (256 ^ k * 256) = 256 * (64 * 256 ^ k) by omega]
    generalize 64 * 256 ^ k = M
    generalize beU l (k + 1) = X
    rw [Nat.mod_mul, Nat.mul_add_mod_self_right, Nat.mod_eq_of_lt h2, show (X * 256 + byteAt l (k + 1)) / 256 = X by omega]
    omega

theorem number_ext (s : ByteArray) (k : Nat) (hk : k ≤ s.size) (hs : s.size ≤ 140737488355328) (w : World) :
    Calls Try.prog 55 #[.string (s.extract 0 k)] w fun e w' => e = .returned (.int .u64 (beU s.data.toList k)) ∧ w = w' := by
  have hz : (s.extract 0 k).size = k := by rw [ByteArray.size_extract]; omega
  have := number_calls (s.extract 0 k) w (by rw [hz]; omega)
  rw [hz, extract_list, List.drop_zero, beU_take _ _ _ (Nat.le_refl _)] at this
  exact this

set_option maxHeartbeats 1000000 in
theorem varOf_calls (s : ByteArray) (w : World) (hs : s.size ≤ 140737488355328) :
    Calls Try.prog 20 #[.string s] w fun e w' => e = eVar (varDec s.data.toList) ∧ Below w.heap.size w w' := by
  have hat := get_at s
  have hls := list_size s
  have HV := Lib.hid (show varDec s.data.toList = _ from rfl)
  unfold varDec at HV
  by_cases h0 : s.size = 0
  · have he : s.toList = [] := by rw [ByteArray.toList_eq]; exact List.eq_nil_of_length_eq_zero (by omega)
    clear hls HV
    go_enter Try.func20, Try.ntmps20
    go_wp2
    go_ret3
    refine ⟨?_, by go_grown⟩
    unfold varDec
    rw [if_pos (by rw [list_size]; exact h0)]
    rfl
  · have he : s.toList.isEmpty = false := by
      rw [ByteArray.toList_eq]
      cases hx : s.data.toList with
      | nil => rw [hx] at hls; simp at hls; omega
      | cons a l => rfl
    have he2 : (!s.toList.isEmpty) = true := by rw [he]; rfl
    have hpos : (0 : Int) < (s.size : Int) := by omega
    have hb0 := byteAt_lt s.data.toList 0
    clear HV hls
    rcases byteAt_div s.data.toList 0 with hq | hq | hq | hq
    · have hqI : (byteAt s.data.toList 0 : Int) / 64 = 0 := by omega
      have hsz : varSize s.data.toList = 1 := varSize_of hq
      by_cases hlt : s.size < 1
      · omega
      · have HF := Lib.hid (show eVar (varDec s.data.toList) = .returned (.tuple #[.int .i64 ((beU s.data.toList 1 : Int) % 64), .int .i64 1, .int .i64 0]) by
          unfold varDec
          rw [list_size, if_neg h0, hsz, if_neg hlt]
          have := dec_of s.data.toList 0 (by decide)
          rw [show 64 * 256 ^ 0 = 64 from by decide] at this
          unfold eVar
          simp only [Nat.reduceSub]
          rw [← this]
          rfl)
        have hle : (1 : Int) ≤ (s.size : Int) := by omega
        have HN := Lib.hid (number_ext s 1 (by omega) (by omega))
        clear hsz hq h0 hlt
        go_enter Try.func20, Try.ntmps20
        go_wp2
        go_quiet ((go_at_call 55; exact quiet_left (HN.out _)))
        go_wp2
        go_ret3
        exact ⟨HF.out.symm, below_drewN (by go_grown) _⟩
    · have hqI : (byteAt s.data.toList 0 : Int) / 64 = 1 := by omega
      have hsz : varSize s.data.toList = 2 := varSize_of hq
      by_cases hlt : s.size < 2
      · have HF := Lib.hid (show eVar (varDec s.data.toList) = .returned (.tuple #[.int .i64 0, .int .i64 0, .int .i64 4]) by
          unfold varDec
          rw [list_size, if_neg h0, hsz, if_pos hlt]
          rfl)
        have hlt2 : (s.size : Int) < 2 := by omega
        clear hsz hq h0
        go_enter Try.func20, Try.ntmps20
        go_wp2
        go_ret3
        exact ⟨HF.out.symm, by go_grown⟩
      · have HF := Lib.hid (show eVar (varDec s.data.toList) = .returned (.tuple #[.int .i64 ((beU s.data.toList 2 : Int) % 16384), .int .i64 2, .int .i64 0]) by
          unfold varDec
          rw [list_size, if_neg h0, hsz, if_neg hlt]
          have := dec_of s.data.toList 1 (by decide)
          rw [show 64 * 256 ^ 1 = 16384 from by decide] at this
          unfold eVar
          simp only [Nat.reduceSub]
          rw [← this]
          rfl)
        have hle : (2 : Int) ≤ (s.size : Int) := by omega
        have HN := Lib.hid (number_ext s 2 (by omega) (by omega))
        clear hsz hq h0 hlt
        go_enter Try.func20, Try.ntmps20
        go_wp2
        go_quiet ((go_at_call 55; exact quiet_left (HN.out _)))
        go_wp2
        go_ret3
        exact ⟨HF.out.symm, below_drewN (by go_grown) _⟩
    · have hqI : (byteAt s.data.toList 0 : Int) / 64 = 2 := by omega
      have hsz : varSize s.data.toList = 4 := varSize_of hq
      by_cases hlt : s.size < 4
      · have HF := Lib.hid (show eVar (varDec s.data.toList) = .returned (.tuple #[.int .i64 0, .int .i64 0, .int .i64 4]) by
          unfold varDec
          rw [list_size, if_neg h0, hsz, if_pos hlt]
          rfl)
        have hlt2 : (s.size : Int) < 4 := by omega
        clear hsz hq h0
        go_enter Try.func20, Try.ntmps20
        go_wp2
        go_ret3
        exact ⟨HF.out.symm, by go_grown⟩
      · have HF := Lib.hid (show eVar (varDec s.data.toList) = .returned (.tuple #[.int .i64 ((beU s.data.toList 4 : Int) % 1073741824), .int .i64 4, .int .i64 0]) by
          unfold varDec
          rw [list_size, if_neg h0, hsz, if_neg hlt]
          have := dec_of s.data.toList 3 (by decide)
          rw [show 64 * 256 ^ 3 = 1073741824 from by decide] at this
          unfold eVar
          simp only [Nat.reduceSub]
          rw [← this]
          rfl)
        have hle : (4 : Int) ≤ (s.size : Int) := by omega
        have HN := Lib.hid (number_ext s 4 (by omega) (by omega))
        clear hsz hq h0 hlt
        go_enter Try.func20, Try.ntmps20
        go_wp2
        go_quiet ((go_at_call 55; exact quiet_left (HN.out _)))
        go_wp2
        go_ret3
        exact ⟨HF.out.symm, below_drewN (by go_grown) _⟩
    · have hqI : (byteAt s.data.toList 0 : Int) / 64 = 3 := by omega
      have hsz : varSize s.data.toList = 8 := varSize_of hq
      by_cases hlt : s.size < 8
      · have HF := Lib.hid (show eVar (varDec s.data.toList) = .returned (.tuple #[.int .i64 0, .int .i64 0, .int .i64 4]) by
          unfold varDec
          rw [list_size, if_neg h0, hsz, if_pos hlt]
          rfl)
        have hlt2 : (s.size : Int) < 8 := by omega
        clear hsz hq h0
        go_enter Try.func20, Try.ntmps20
        go_wp2
        go_ret3
        exact ⟨HF.out.symm, by go_grown⟩
      · have HF := Lib.hid (show eVar (varDec s.data.toList) = .returned (.tuple #[.int .i64 ((beU s.data.toList 8 : Int) % 4611686018427387904), .int .i64 8, .int .i64 0]) by
          unfold varDec
          rw [list_size, if_neg h0, hsz, if_neg hlt]
          have := dec_of s.data.toList 7 (by decide)
          rw [show 64 * 256 ^ 7 = 4611686018427387904 from by decide] at this
          unfold eVar
          simp only [Nat.reduceSub]
          rw [← this]
          rfl)
        have hle : (8 : Int) ≤ (s.size : Int) := by omega
        have HN := Lib.hid (number_ext s 8 (by omega) (by omega))
        clear hsz hq h0 hlt
        go_enter Try.func20, Try.ntmps20
        go_wp2
        go_quiet ((go_at_call 55; exact quiet_left (HN.out _)))
        go_wp2
        go_ret3
        exact ⟨HF.out.symm, below_drewN (by go_grown) _⟩
end Go.Proofs.Ytmfpfpllipogiaa
