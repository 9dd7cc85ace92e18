/-
  packno.Whole and the reference's WholeNumber: what each answers. No condition.
-/
import Derived.Test.YtmfpfpllipogiaaPackno
import Derived.Test.YtmfpfpllipogiaaVar
set_option linter.unusedSimpArgs false
set_option linter.unusedVariables false
namespace Go.Proofs.Ytmfpfpllipogiaa
open Go.RowKit

theorem ofInt_nat (n : Nat) (hn : n < 9223372036854775808) : (BitVec.ofInt 64 (n : Int)).toNat = n := by
  rw [BitVec.ofInt_natCast, BitVec.toNat_ofNat]
  exact Nat.mod_eq_of_lt (by omega)
theorem or_join (a c m : Nat) (hc : c < 2 ^ m) (ha : a * 2 ^ m + c < 9223372036854775808) : bits .or .i64 ((a * 2 ^ m : Nat) : Int) (c : Int) = ((a * 2 ^ m + c : Nat) : Int) := by
  have hx : a * 2 ^ m ||| c = a * 2 ^ m + c := by rw [Nat.mul_comm, Nat.two_pow_add_eq_or_of_lt hc]
  show IntKind.i64.wrap ((BitVec.ofInt 64 ((a * 2 ^ m : Nat) : Int) ||| BitVec.ofInt 64 (c : Int)).toNat : Int) = _
  rw [BitVec.toNat_or, ofInt_nat _ (by omega), ofInt_nat _ (by omega), hx, IntKind.wrap_i64]
  omega
theorem mask_off (n m : Nat) (hn : n < 9223372036854775808) (hm : m ≤ 62) : bits .andNot .i64 (n : Int) ((2 ^ m - 1 : Nat) : Int) = ((n / 2 ^ m * 2 ^ m : Nat) : Int) := by
  have h1 : 2 ^ m ≤ 2 ^ 62 := Nat.pow_le_pow_right (by decide) hm
  have h2 : (2 : Nat) ^ 62 = 4611686018427387904 := by decide
  have h3 : 0 < 2 ^ m := Nat.pow_pos (by decide)
  have h4 : n / 2 ^ m * 2 ^ m ≤ n := Nat.div_mul_le_self _ _
  have hx : n &&& (2 ^ 64 - 1 - (2 ^ m - 1)) = n / 2 ^ m * 2 ^ m := by
    have := nat_midmask 64 m n (by omega)
    rw [Nat.mod_eq_of_lt (by omega)] at this
    rw [show 2 ^ 64 - 1 - (2 ^ m - 1) = 2 ^ 64 - 2 ^ m from by omega]
    exact this
  show IntKind.i64.wrap ((BitVec.ofInt 64 (n : Int) &&& ~~~ BitVec.ofInt 64 ((2 ^ m - 1 : Nat) : Int)).toNat : Int) = _
  rw [BitVec.toNat_and, BitVec.toNat_not, ofInt_nat _ (by omega), ofInt_nat _ (by omega), hx, IntKind.wrap_i64]
  omega

/-- P2.2 -/
def wholeN (N win low : Nat) : Int :=
  if ((N / win * win + low : Nat) : Int) ≤ (N : Int) - (win / 2 : Nat) ∧ ((N / win * win + low : Nat) : Int) + win < 4611686018427387904 then ((N / win * win + low : Nat) : Int) + win
  else if (N : Int) + (win / 2 : Nat) < ((N / win * win + low : Nat) : Int) ∧ (win : Int) ≤ ((N / win * win + low : Nat) : Int) then ((N / win * win + low : Nat) : Int) - win
  else ((N / win * win + low : Nat) : Int)
theorem wholeN_up {N win low half : Nat} {T X : Int} (hT : T + 1 = N) (hX : X = ((N / win * win + low : Nat) : Int)) (hh : win / 2 = half) (h1 : X ≤ T + 1 - half) (h2 : X + win < 4611686018427387904) : wholeN N win low = X + win := by
  unfold wholeN; rw [hh, ← hX, ← hT, if_pos ⟨h1, h2⟩]
theorem wholeN_down {N win low half : Nat} {T X : Int} (hT : T + 1 = N) (hX : X = ((N / win * win + low : Nat) : Int)) (hh : win / 2 = half) (h1 : ¬ (X ≤ T + 1 - half ∧ X + win < 4611686018427387904)) (h2 : T + 1 + half < X) (h3 : (win : Int) ≤ X) :
    wholeN N win low = X - win := by unfold wholeN; rw [hh, ← hX, ← hT, if_neg h1, if_pos ⟨h2, h3⟩]
theorem wholeN_same {N win low half : Nat} {T X : Int} (hT : T + 1 = N) (hX : X = ((N / win * win + low : Nat) : Int)) (hh : win / 2 = half) (h1 : ¬ (X ≤ T + 1 - half ∧ X + win < 4611686018427387904)) (h2 : ¬ (T + 1 + half < X ∧ (win : Int) ≤ X)) :
    wholeN N win low = X := by unfold wholeN; rw [hh, ← hX, ← hT, if_neg h1, if_neg h2]
theorem ret_whole {a b : Int} (h : a = b) : Ending.returned (.tuple #[.int .i64 a, .int .i64 0]) = .returned (.tuple #[.int .i64 b, .int .i64 0]) := by rw [h]
def wholeE (top : Int) (l : List UInt8) : Ending :=
  if l.length < 1 ∨ 4 < l.length then .returned (.tuple #[.int .i64 0, .int .i64 1])
  else if top < -1 ∨ 4611686018427387903 < top then .returned (.tuple #[.int .i64 0, .int .i64 6])
  else .returned (.tuple #[.int .i64 (wholeN (top + 1).toNat (256 ^ l.length) (beU l l.length)), .int .i64 0])

theorem or_low (n low k : Nat) (hk : k < 6) (hl : low < 256 ^ k) (c : Nat) (hc : c < 256) : bits .or .i64 ((low : Int) * 256) (c : Int) = ((low * 256 + c : Nat) : Int) := by
  have h1 : (256 : Nat) ^ k ≤ 256 ^ 5 := Nat.pow_le_pow_right (by decide) (by omega)
  have h2 : (256 : Nat) ^ 5 = 1099511627776 := by decide
  have := or_join low c 8 hc (by omega)
  rw [show (2 : Nat) ^ 8 = 256 from rfl] at this
  rw [← this]
  first | rfl | congr 1

set_option maxRecDepth 100000 in
set_option maxHeartbeats 2000000 in
theorem whole_bad (S : Foot) (v : Value) (l : List UInt8) (top : Int) (w : World) (h : RBytes S w [v] l) (ho : l.length < 1 ∨ 4 < l.length ∨ top < -1 ∨ 4611686018427387903 < top) :
    Calls Try.prog 40 #[.int .i64 top, v] w fun e w' => e = wholeE top l ∧ Below w.heap.size w w' := by
  obtain ⟨A, c, hv, hl, hc, hl47, he⟩ := h.at_
  injection hv with hv _
  subst hv
  clear h he
  have HE := Lib.hid (show wholeE top l = _ from rfl)
  have HO := Lib.hid ho
  clear ho HE
  go_enter Try.func40, Try.ntmps40
  go_wp2
  all_goals first
    | (go_ret2
       refine ⟨?_, Below.refl _ _⟩
       unfold wholeE
       have h1 := HO.out
       first
         | (rw [if_pos (by omega)]; rfl)
         | (rw [if_neg (by omega), if_pos (by omega)]; rfl))
    | (exfalso; have h1 := HO.out; omega)

set_option maxRecDepth 100000 in
set_option maxHeartbeats 4000000 in
theorem whole_1 (S : Foot) (v : Value) (l : List UInt8) (T : Int) (w : World) (h : RBytes S w [v] l) (hlen : l.length = 1) (hT0 : -1 ≤ T) (hT1 : T ≤ 4611686018427387903) :
    Calls Try.prog 40 #[.int .i64 T, v] w fun e w' => e = wholeE T l ∧ Below w.heap.size w w' := by
  have HE := Lib.hid (show wholeE T l = .returned (.tuple #[.int .i64 (wholeN (T + 1).toNat 256 (beU l 1)), .int .i64 0]) by
    unfold wholeE
    rw [if_neg (by omega), if_neg (by omega), hlen])
  obtain ⟨A, c, hv, hl, hc, hl47, he⟩ := h.at_
  injection hv with hv _
  subst hv
  obtain ⟨b, off, rfl, hS, hcell⟩ := he (by omega)
  rw [hlen] at hl hcell
  have HC := Lib.hid hcell
  have hlI : (1 : Int) ≤ c := by omega
  rw [hlen]
  clear h he hcell hlen hl47
  go_enter Try.func40, Try.ntmps40
  go_wp2
  go_loop [7, 32] (fun n i => ∃ j : Nat, j ≤ 1 ∧ i = .int .i64 j ∧ n = .int .i64 (beU l j)) (fun _ i => 1 - (intOf i).toNat)
  case atStart => exact ⟨0, by omega, by go_num, rfl⟩
  case round =>
    obtain ⟨j, hj, rfl, rfl⟩ := hrel
    by_cases hjj : j < 1
    · have hx := HC.out j hjj
      have hb2 := byteAt_lt l j
      have hor := or_low l.length (beU l j) j (by omega) (beU_small l j (by omega)) (byteAt l j) hb2
      have HS := Lib.hid (beU_succ l j (by omega))
      have hbl := beU_small l j (by omega)
      have hbm : beU l j < 1099511627776 := by
        have h1 : (256 : Nat) ^ j ≤ 256 ^ 5 := Nat.pow_le_pow_right (by decide) (by omega)
        have h2 : (256 : Nat) ^ 5 = 1099511627776 := by decide
        omega
      clear hbl
      generalize beU l j = B at *
      generalize byteAt l j = C at *
      go_wp2
      refine ⟨⟨j + 1, by omega, by go_num, ?_⟩, by simp [intOf]; omega⟩
      rw [HS.out]
      go_num
    · have hj4 : j = 1 := by omega
      subst hj4
      clear hj hjj
      have hTN : T + 1 = ((T + 1).toNat : Int) := by omega
      have hNlt : (T + 1).toNat ≤ 4611686018427387904 := by omega
      generalize (T + 1).toNat = N at *
      have hbl2 : beU l 1 < 256 := by have := beU_small l 1 (by omega); rwa [show 256 ^ 1 = 256 from by decide] at this
      have hle : N / 256 * 256 ≤ N := Nat.div_mul_le_self _ _
      have hle2 : N < N / 256 * 256 + 256 := by omega
      obtain ⟨X, hX⟩ : ∃ X : Int, X = ((N / 256 * 256 + beU l 1 : Nat) : Int) := ⟨_, rfl⟩
      have hU := fun h1 h2 => @wholeN_up N 256 (beU l 1) 128 T X hTN hX (by decide) h1 h2
      have hW := fun h1 h2 h3 => @wholeN_down N 256 (beU l 1) 128 T X hTN hX (by decide) h1 h2 h3
      have hS := fun h1 h2 => @wholeN_same N 256 (beU l 1) 128 T X hTN hX (by decide) h1 h2
      have hX0 : 0 ≤ X := by omega
      have hX1 : X ≤ T + 1 + 256 := by omega
      have hX2 : T + 1 - 256 < X := by omega
      have hm := mask_off N 8 (by omega) (by omega)
      have hj2 := or_join (N / 256) (beU l 1) 8 (by rw [show (2 : Nat) ^ 8 = 256 from by decide]; exact hbl2) (by rw [show (2 : Nat) ^ 8 = 256 from by decide]; omega)
      rw [show (2 : Nat) ^ 8 = 256 from by decide] at hm hj2
      rw [← hX] at hj2
      rw [← hTN, show ((256 - 1 : Nat) : Int) = 255 from by omega] at hm
      clear hTN hNlt hle hle2 hX
      have HU := Lib.hid hU
      have HW := Lib.hid hW
      have HT := Lib.hid hS
      clear hU hW hS hbl2
      generalize ((N / 256 * 256 : Nat) : Int) = M at *
      generalize ((beU l 1 : Nat) : Int) = B at *
      by_cases a1 : X ≤ T + 1 - 128
      · by_cases a2 : X < 4611686018427387648
        · go_wp2
          go_ret2
          refine ⟨?_, by go_grown⟩
          rw [HE.out]
          exact ret_whole (HU.out (by omega) (by omega)).symm
        · have a3 : 4611686018427387648 ≤ X := by omega
          have a4 : X ≤ T + 1 + 128 := by omega
          clear a2
          go_wp2
          go_ret2
          refine ⟨?_, by go_grown⟩
          rw [HE.out]
          exact ret_whole (HT.out (by omega) (by omega)).symm
      · have a0 : T + 1 - 128 < X := by omega
        clear a1
        by_cases a2 : T + 1 + 128 < X
        · by_cases a3 : 256 ≤ X
          · go_wp2
            go_ret2
            refine ⟨?_, by go_grown⟩
            rw [HE.out]
            exact ret_whole (HW.out (by omega) (by omega) (by omega)).symm
          · have a4 : X < 256 := by omega
            clear a3
            go_wp2
            go_ret2
            refine ⟨?_, by go_grown⟩
            rw [HE.out]
            exact ret_whole (HT.out (by omega) (by omega)).symm
        · have a4 : X ≤ T + 1 + 128 := by omega
          clear a2
          go_wp2
          go_ret2
          refine ⟨?_, by go_grown⟩
          rw [HE.out]
          exact ret_whole (HT.out (by omega) (by omega)).symm

set_option maxRecDepth 100000 in
set_option maxHeartbeats 4000000 in
theorem whole_2 (S : Foot) (v : Value) (l : List UInt8) (T : Int) (w : World) (h : RBytes S w [v] l) (hlen : l.length = 2) (hT0 : -1 ≤ T) (hT1 : T ≤ 4611686018427387903) :
    Calls Try.prog 40 #[.int .i64 T, v] w fun e w' => e = wholeE T l ∧ Below w.heap.size w w' := by
  have HE := Lib.hid (show wholeE T l = .returned (.tuple #[.int .i64 (wholeN (T + 1).toNat 65536 (beU l 2)), .int .i64 0]) by
    unfold wholeE
    rw [if_neg (by omega), if_neg (by omega), hlen, show 256 ^ 2 = 65536 from by decide])
  obtain ⟨A, c, hv, hl, hc, hl47, he⟩ := h.at_
  injection hv with hv _
  subst hv
  obtain ⟨b, off, rfl, hS, hcell⟩ := he (by omega)
  rw [hlen] at hl hcell
  have HC := Lib.hid hcell
  have hlI : (2 : Int) ≤ c := by omega
  rw [hlen]
  clear h he hcell hlen hl47
  go_enter Try.func40, Try.ntmps40
  go_wp2
  go_loop [7, 32] (fun n i => ∃ j : Nat, j ≤ 2 ∧ i = .int .i64 j ∧ n = .int .i64 (beU l j)) (fun _ i => 2 - (intOf i).toNat)
  case atStart => exact ⟨0, by omega, by go_num, rfl⟩
  case round =>
    obtain ⟨j, hj, rfl, rfl⟩ := hrel
    by_cases hjj : j < 2
    · have hx := HC.out j hjj
      have hb2 := byteAt_lt l j
      have hor := or_low l.length (beU l j) j (by omega) (beU_small l j (by omega)) (byteAt l j) hb2
      have HS := Lib.hid (beU_succ l j (by omega))
      have hbl := beU_small l j (by omega)
      have hbm : beU l j < 1099511627776 := by
        have h1 : (256 : Nat) ^ j ≤ 256 ^ 5 := Nat.pow_le_pow_right (by decide) (by omega)
        have h2 : (256 : Nat) ^ 5 = 1099511627776 := by decide
        omega
      clear hbl
      generalize beU l j = B at *
      generalize byteAt l j = C at *
      go_wp2
      refine ⟨⟨j + 1, by omega, by go_num, ?_⟩, by simp [intOf]; omega⟩
      rw [HS.out]
      go_num
    · have hj4 : j = 2 := by omega
      subst hj4
      clear hj hjj
      have hTN : T + 1 = ((T + 1).toNat : Int) := by omega
      have hNlt : (T + 1).toNat ≤ 4611686018427387904 := by omega
      generalize (T + 1).toNat = N at *
      have hbl2 : beU l 2 < 65536 := by have := beU_small l 2 (by omega); rwa [show 256 ^ 2 = 65536 from by decide] at this
      have hle : N / 65536 * 65536 ≤ N := Nat.div_mul_le_self _ _
      have hle2 : N < N / 65536 * 65536 + 65536 := by omega
      obtain ⟨X, hX⟩ : ∃ X : Int, X = ((N / 65536 * 65536 + beU l 2 : Nat) : Int) := ⟨_, rfl⟩
      have hU := fun h1 h2 => @wholeN_up N 65536 (beU l 2) 32768 T X hTN hX (by decide) h1 h2
      have hW := fun h1 h2 h3 => @wholeN_down N 65536 (beU l 2) 32768 T X hTN hX (by decide) h1 h2 h3
      have hS := fun h1 h2 => @wholeN_same N 65536 (beU l 2) 32768 T X hTN hX (by decide) h1 h2
      have hX0 : 0 ≤ X := by omega
      have hX1 : X ≤ T + 1 + 65536 := by omega
      have hX2 : T + 1 - 65536 < X := by omega
      have hm := mask_off N 16 (by omega) (by omega)
      have hj2 := or_join (N / 65536) (beU l 2) 16 (by rw [show (2 : Nat) ^ 16 = 65536 from by decide]; exact hbl2) (by rw [show (2 : Nat) ^ 16 = 65536 from by decide]; omega)
      rw [show (2 : Nat) ^ 16 = 65536 from by decide] at hm hj2
      rw [← hX] at hj2
      rw [← hTN, show ((65536 - 1 : Nat) : Int) = 65535 from by omega] at hm
      clear hTN hNlt hle hle2 hX
      have HU := Lib.hid hU
      have HW := Lib.hid hW
      have HT := Lib.hid hS
      clear hU hW hS hbl2
      generalize ((N / 65536 * 65536 : Nat) : Int) = M at *
      generalize ((beU l 2 : Nat) : Int) = B at *
      by_cases a1 : X ≤ T + 1 - 32768
      · by_cases a2 : X < 4611686018427322368
        · go_wp2
          go_ret2
          refine ⟨?_, by go_grown⟩
          rw [HE.out]
          exact ret_whole (HU.out (by omega) (by omega)).symm
        · have a3 : 4611686018427322368 ≤ X := by omega
          have a4 : X ≤ T + 1 + 32768 := by omega
          clear a2
          go_wp2
          go_ret2
          refine ⟨?_, by go_grown⟩
          rw [HE.out]
          exact ret_whole (HT.out (by omega) (by omega)).symm
      · have a0 : T + 1 - 32768 < X := by omega
        clear a1
        by_cases a2 : T + 1 + 32768 < X
        · by_cases a3 : 65536 ≤ X
          · go_wp2
            go_ret2
            refine ⟨?_, by go_grown⟩
            rw [HE.out]
            exact ret_whole (HW.out (by omega) (by omega) (by omega)).symm
          · have a4 : X < 65536 := by omega
            clear a3
            go_wp2
            go_ret2
            refine ⟨?_, by go_grown⟩
            rw [HE.out]
            exact ret_whole (HT.out (by omega) (by omega)).symm
        · have a4 : X ≤ T + 1 + 32768 := by omega
          clear a2
          go_wp2
          go_ret2
          refine ⟨?_, by go_grown⟩
          rw [HE.out]
          exact ret_whole (HT.out (by omega) (by omega)).symm

set_option maxRecDepth 100000 in
set_option maxHeartbeats 4000000 in
theorem whole_3 (S : Foot) (v : Value) (l : List UInt8) (T : Int) (w : World) (h : RBytes S w [v] l) (hlen : l.length = 3) (hT0 : -1 ≤ T) (hT1 : T ≤ 4611686018427387903) :
    Calls Try.prog 40 #[.int .i64 T, v] w fun e w' => e = wholeE T l ∧ Below w.heap.size w w' := by
  have HE := Lib.hid (show wholeE T l = .returned (.tuple #[.int .i64 (wholeN (T + 1).toNat 16777216 (beU l 3)), .int .i64 0]) by
    unfold wholeE
    rw [if_neg (by omega), if_neg (by omega), hlen, show 256 ^ 3 = 16777216 from by decide])
  obtain ⟨A, c, hv, hl, hc, hl47, he⟩ := h.at_
  injection hv with hv _
  subst hv
  obtain ⟨b, off, rfl, hS, hcell⟩ := he (by omega)
  rw [hlen] at hl hcell
  have HC := Lib.hid hcell
  have hlI : (3 : Int) ≤ c := by omega
  rw [hlen]
  clear h he hcell hlen hl47
  go_enter Try.func40, Try.ntmps40
  go_wp2
  go_loop [7, 32] (fun n i => ∃ j : Nat, j ≤ 3 ∧ i = .int .i64 j ∧ n = .int .i64 (beU l j)) (fun _ i => 3 - (intOf i).toNat)
  case atStart => exact ⟨0, by omega, by go_num, rfl⟩
  case round =>
    obtain ⟨j, hj, rfl, rfl⟩ := hrel
    by_cases hjj : j < 3
    · have hx := HC.out j hjj
      have hb2 := byteAt_lt l j
      have hor := or_low l.length (beU l j) j (by omega) (beU_small l j (by omega)) (byteAt l j) hb2
      have HS := Lib.hid (beU_succ l j (by omega))
      have hbl := beU_small l j (by omega)
      have hbm : beU l j < 1099511627776 := by
        have h1 : (256 : Nat) ^ j ≤ 256 ^ 5 := Nat.pow_le_pow_right (by decide) (by omega)
        have h2 : (256 : Nat) ^ 5 = 1099511627776 := by decide
        omega
      clear hbl
      generalize beU l j = B at *
      generalize byteAt l j = C at *
      go_wp2
      refine ⟨⟨j + 1, by omega, by go_num, ?_⟩, by simp [intOf]; omega⟩
      rw [HS.out]
      go_num
    · have hj4 : j = 3 := by omega
      subst hj4
      clear hj hjj
      have hTN : T + 1 = ((T + 1).toNat : Int) := by omega
      have hNlt : (T + 1).toNat ≤ 4611686018427387904 := by omega
      generalize (T + 1).toNat = N at *
      have hbl2 : beU l 3 < 16777216 := by have := beU_small l 3 (by omega); rwa [show 256 ^ 3 = 16777216 from by decide] at this
      have hle : N / 16777216 * 16777216 ≤ N := Nat.div_mul_le_self _ _
      have hle2 : N < N / 16777216 * 16777216 + 16777216 := by omega
      obtain ⟨X, hX⟩ : ∃ X : Int, X = ((N / 16777216 * 16777216 + beU l 3 : Nat) : Int) := ⟨_, rfl⟩
      have hU := fun h1 h2 => @wholeN_up N 16777216 (beU l 3) 8388608 T X hTN hX (by decide) h1 h2
      have hW := fun h1 h2 h3 => @wholeN_down N 16777216 (beU l 3) 8388608 T X hTN hX (by decide) h1 h2 h3
      have hS := fun h1 h2 => @wholeN_same N 16777216 (beU l 3) 8388608 T X hTN hX (by decide) h1 h2
      have hX0 : 0 ≤ X := by omega
      have hX1 : X ≤ T + 1 + 16777216 := by omega
      have hX2 : T + 1 - 16777216 < X := by omega
      have hm := mask_off N 24 (by omega) (by omega)
      have hj2 := or_join (N / 16777216) (beU l 3) 24 (by rw [show (2 : Nat) ^ 24 = 16777216 from by decide]; exact hbl2) (by rw [show (2 : Nat) ^ 24 = 16777216 from by decide]; omega)
      rw [show (2 : Nat) ^ 24 = 16777216 from by decide] at hm hj2
      rw [← hX] at hj2
      rw [← hTN, show ((16777216 - 1 : Nat) : Int) = 16777215 from by omega] at hm
      clear hTN hNlt hle hle2 hX
      have HU := Lib.hid hU
      have HW := Lib.hid hW
      have HT := Lib.hid hS
      clear hU hW hS hbl2
      generalize ((N / 16777216 * 16777216 : Nat) : Int) = M at *
      generalize ((beU l 3 : Nat) : Int) = B at *
      by_cases a1 : X ≤ T + 1 - 8388608
      · by_cases a2 : X < 4611686018410610688
        · go_wp2
          go_ret2
          refine ⟨?_, by go_grown⟩
          rw [HE.out]
          exact ret_whole (HU.out (by omega) (by omega)).symm
        · have a3 : 4611686018410610688 ≤ X := by omega
          have a4 : X ≤ T + 1 + 8388608 := by omega
          clear a2
          go_wp2
          go_ret2
          refine ⟨?_, by go_grown⟩
          rw [HE.out]
          exact ret_whole (HT.out (by omega) (by omega)).symm
      · have a0 : T + 1 - 8388608 < X := by omega
        clear a1
        by_cases a2 : T + 1 + 8388608 < X
        · by_cases a3 : 16777216 ≤ X
          · go_wp2
            go_ret2
            refine ⟨?_, by go_grown⟩
            rw [HE.out]
            exact ret_whole (HW.out (by omega) (by omega) (by omega)).symm
          · have a4 : X < 16777216 := by omega
            clear a3
            go_wp2
            go_ret2
            refine ⟨?_, by go_grown⟩
            rw [HE.out]
            exact ret_whole (HT.out (by omega) (by omega)).symm
        · have a4 : X ≤ T + 1 + 8388608 := by omega
          clear a2
          go_wp2
          go_ret2
          refine ⟨?_, by go_grown⟩
          rw [HE.out]
          exact ret_whole (HT.out (by omega) (by omega)).symm

set_option maxRecDepth 100000 in
set_option maxHeartbeats 4000000 in
theorem whole_4 (S : Foot) (v : Value) (l : List UInt8) (T : Int) (w : World) (h : RBytes S w [v] l) (hlen : l.length = 4) (hT0 : -1 ≤ T) (hT1 : T ≤ 4611686018427387903) :
    Calls Try.prog 40 #[.int .i64 T, v] w fun e w' => e = wholeE T l ∧ Below w.heap.size w w' := by
  have HE := Lib.hid (show wholeE T l = .returned (.tuple #[.int .i64 (wholeN (T + 1).toNat 4294967296 (beU l 4)), .int .i64 0]) by
    unfold wholeE
    rw [if_neg (by omega), if_neg (by omega), hlen, show 256 ^ 4 = 4294967296 from by decide])
  obtain ⟨A, c, hv, hl, hc, hl47, he⟩ := h.at_
  injection hv with hv _
  subst hv
  obtain ⟨b, off, rfl, hS, hcell⟩ := he (by omega)
  rw [hlen] at hl hcell
  have HC := Lib.hid hcell
  have hlI : (4 : Int) ≤ c := by omega
  rw [hlen]
  clear h he hcell hlen hl47
  go_enter Try.func40, Try.ntmps40
  go_wp2
  go_loop [7, 32] (fun n i => ∃ j : Nat, j ≤ 4 ∧ i = .int .i64 j ∧ n = .int .i64 (beU l j)) (fun _ i => 4 - (intOf i).toNat)
  case atStart => exact ⟨0, by omega, by go_num, rfl⟩
  case round =>
    obtain ⟨j, hj, rfl, rfl⟩ := hrel
    by_cases hjj : j < 4
    · have hx := HC.out j hjj
      have hb2 := byteAt_lt l j
      have hor := or_low l.length (beU l j) j (by omega) (beU_small l j (by omega)) (byteAt l j) hb2
      have HS := Lib.hid (beU_succ l j (by omega))
      have hbl := beU_small l j (by omega)
      have hbm : beU l j < 1099511627776 := by
        have h1 : (256 : Nat) ^ j ≤ 256 ^ 5 := Nat.pow_le_pow_right (by decide) (by omega)
        have h2 : (256 : Nat) ^ 5 = 1099511627776 := by decide
        omega
      clear hbl
      generalize beU l j = B at *
      generalize byteAt l j = C at *
      go_wp2
      refine ⟨⟨j + 1, by omega, by go_num, ?_⟩, by simp [intOf]; omega⟩
      rw [HS.out]
      go_num
    · have hj4 : j = 4 := by omega
      subst hj4
      clear hj hjj
      have hTN : T + 1 = ((T + 1).toNat : Int) := by omega
      have hNlt : (T + 1).toNat ≤ 4611686018427387904 := by omega
      generalize (T + 1).toNat = N at *
      have hbl2 : beU l 4 < 4294967296 := by have := beU_small l 4 (by omega); rwa [show 256 ^ 4 = 4294967296 from by decide] at this
      have hle : N / 4294967296 * 4294967296 ≤ N := Nat.div_mul_le_self _ _
      have hle2 : N < N / 4294967296 * 4294967296 + 4294967296 := by omega
      obtain ⟨X, hX⟩ : ∃ X : Int, X = ((N / 4294967296 * 4294967296 + beU l 4 : Nat) : Int) := ⟨_, rfl⟩
      have hU := fun h1 h2 => @wholeN_up N 4294967296 (beU l 4) 2147483648 T X hTN hX (by decide) h1 h2
      have hW := fun h1 h2 h3 => @wholeN_down N 4294967296 (beU l 4) 2147483648 T X hTN hX (by decide) h1 h2 h3
      have hS := fun h1 h2 => @wholeN_same N 4294967296 (beU l 4) 2147483648 T X hTN hX (by decide) h1 h2
      have hX0 : 0 ≤ X := by omega
      have hX1 : X ≤ T + 1 + 4294967296 := by omega
      have hX2 : T + 1 - 4294967296 < X := by omega
      have hm := mask_off N 32 (by omega) (by omega)
      have hj2 := or_join (N / 4294967296) (beU l 4) 32 (by rw [show (2 : Nat) ^ 32 = 4294967296 from by decide]; exact hbl2) (by rw [show (2 : Nat) ^ 32 = 4294967296 from by decide]; omega)
      rw [show (2 : Nat) ^ 32 = 4294967296 from by decide] at hm hj2
      rw [← hX] at hj2
      rw [← hTN, show ((4294967296 - 1 : Nat) : Int) = 4294967295 from by omega] at hm
      clear hTN hNlt hle hle2 hX
      have HU := Lib.hid hU
      have HW := Lib.hid hW
      have HT := Lib.hid hS
      clear hU hW hS hbl2
      generalize ((N / 4294967296 * 4294967296 : Nat) : Int) = M at *
      generalize ((beU l 4 : Nat) : Int) = B at *
      by_cases a1 : X ≤ T + 1 - 2147483648
      · by_cases a2 : X < 4611686014132420608
        · go_wp2
          go_ret2
          refine ⟨?_, by go_grown⟩
          rw [HE.out]
          exact ret_whole (HU.out (by omega) (by omega)).symm
        · have a3 : 4611686014132420608 ≤ X := by omega
          have a4 : X ≤ T + 1 + 2147483648 := by omega
          clear a2
          go_wp2
          go_ret2
          refine ⟨?_, by go_grown⟩
          rw [HE.out]
          exact ret_whole (HT.out (by omega) (by omega)).symm
      · have a0 : T + 1 - 2147483648 < X := by omega
        clear a1
        by_cases a2 : T + 1 + 2147483648 < X
        · by_cases a3 : 4294967296 ≤ X
          · go_wp2
            go_ret2
            refine ⟨?_, by go_grown⟩
            rw [HE.out]
            exact ret_whole (HW.out (by omega) (by omega) (by omega)).symm
          · have a4 : X < 4294967296 := by omega
            clear a3
            go_wp2
            go_ret2
            refine ⟨?_, by go_grown⟩
            rw [HE.out]
            exact ret_whole (HT.out (by omega) (by omega)).symm
        · have a4 : X ≤ T + 1 + 2147483648 := by omega
          clear a2
          go_wp2
          go_ret2
          refine ⟨?_, by go_grown⟩
          rw [HE.out]
          exact ret_whole (HT.out (by omega) (by omega)).symm

theorem whole_calls (S : Foot) (v : Value) (l : List UInt8) (T : Int) (w : World) (h : RBytes S w [v] l) :
    Calls Try.prog 40 #[.int .i64 T, v] w fun e w' => e = wholeE T l ∧ Below w.heap.size w w' := by
  by_cases ho : l.length < 1 ∨ 4 < l.length ∨ T < -1 ∨ 4611686018427387903 < T
  · exact whole_bad S v l T w h ho
  · by_cases h1 : l.length = 1
    · exact whole_1 S v l T w h h1 (by omega) (by omega)
    · by_cases h2 : l.length = 2
      · exact whole_2 S v l T w h h2 (by omega) (by omega)
      · by_cases h3 : l.length = 3
        · exact whole_3 S v l T w h h3 (by omega) (by omega)
        · exact whole_4 S v l T w h (by omega) (by omega) (by omega)

set_option maxRecDepth 100000 in
set_option maxHeartbeats 2000000 in
theorem wholeNumber_bad (S : Foot) (v : Value) (l : List UInt8) (top : Int) (w : World) (h : RBytes S w [v] l) (ho : l.length < 1 ∨ 4 < l.length ∨ top < -1 ∨ 4611686018427387903 < top) :
    Calls Try.prog 41 #[.int .i64 top, v] w fun e w' => e = wholeE top l ∧ Below w.heap.size w w' := by
  obtain ⟨A, c, hv, hl, hc, hl47, he⟩ := h.at_
  injection hv with hv _
  subst hv
  clear h he
  have HO := Lib.hid ho
  by_cases hz0 : l.length = 0
  · have hz : ((l.length : Int) == 0) = true := by rw [hz0]; rfl
    have HE := Lib.hid (show wholeE top l = .returned (.tuple #[.int .i64 0, .int .i64 1]) by unfold wholeE; rw [if_pos (by omega)])
    clear ho hz0
    go_enter Try.func41, Try.ntmps41
    go_wp2
    go_ret2
    exact ⟨HE.out.symm, Below.refl _ _⟩
  · have hz : ((l.length : Int) == 0) = false := by rw [beq_eq_false_iff_ne]; omega
    have hpos : 0 < (l.length : Int) := by omega
    have hpos2 := Lib.hid hpos
    clear ho hz0
    go_enter Try.func41, Try.ntmps41
    go_wp2
    all_goals first
      | (go_ret2
         refine ⟨?_, Below.refl _ _⟩
         unfold wholeE
         have h1 := HO.out
         have h2 := hpos2.out
         (try simp only [Bool.not_eq_true', Bool.not_eq_false', Bool.and_eq_true, Bool.or_eq_true, Bool.and_eq_false_iff, Bool.or_eq_false_iff, decide_eq_true_eq, decide_eq_false_iff_not, Int.not_le, Int.not_lt] at *)
         first
           | (rw [if_pos (by omega)]; rfl)
           | (rw [if_neg (by omega), if_pos (by omega)]; rfl))
      | (exfalso; have h1 := HO.out; have h2 := hpos2.out; (try simp only [Bool.not_eq_true', Bool.not_eq_false', Bool.and_eq_true, Bool.or_eq_true, Bool.and_eq_false_iff, Bool.or_eq_false_iff, decide_eq_true_eq, decide_eq_false_iff_not, Int.not_le, Int.not_lt] at *); omega)

set_option maxRecDepth 100000 in
set_option maxHeartbeats 4000000 in
theorem wholeNumber_1 (S : Foot) (v : Value) (l : List UInt8) (T : Int) (w : World) (h : RBytes S w [v] l) (hlen : l.length = 1) (hT0 : -1 ≤ T) (hT1 : T ≤ 4611686018427387903) :
    Calls Try.prog 41 #[.int .i64 T, v] w fun e w' => e = wholeE T l ∧ Below w.heap.size w w' := by
  have HE := Lib.hid (show wholeE T l = .returned (.tuple #[.int .i64 (wholeN (T + 1).toNat 256 (beU l 1)), .int .i64 0]) by
    unfold wholeE
    rw [if_neg (by omega), if_neg (by omega), hlen])
  have hcv : ∀ n, (convert 27 9 v).run Try.prog (w.drewN n) = .ok (.string (strOf l)) (w.drewN n) := fun n => run_string_of Try.underlying27 Try.underlying5 Try.underlying9 (w := w.drewN n) h
  have hnum : ∀ W, Calls Try.prog 55 #[.string (strOf l)] W fun e w' => e = .returned (.int .u64 ((beU l 1 : Nat) : Int)) ∧ W = w' := fun W => by
    have := number_calls (strOf l) W (by rw [strOf_size]; omega)
    rwa [strOf_list, strOf_size, hlen] at this
  have HN := Lib.hid hnum
  obtain ⟨A, c, hv, hl, hc, hl47, he⟩ := h.at_
  injection hv with hv _
  subst hv
  rw [hlen] at hl
  have hlI : (1 : Int) ≤ c := by omega
  rw [hlen] at hcv ⊢
  clear h he hlen hl47 hnum
  have hTN : T + 1 = ((T + 1).toNat : Int) := by omega
  have hNlt : (T + 1).toNat ≤ 4611686018427387904 := by omega
  generalize (T + 1).toNat = N at *
  have hbl2 : beU l 1 < 256 := by have := beU_small l 1 (by omega); rwa [show 256 ^ 1 = 256 from by decide] at this
  have hle : N / 256 * 256 ≤ N := Nat.div_mul_le_self _ _
  have hle2 : N < N / 256 * 256 + 256 := by omega
  obtain ⟨X, hX⟩ : ∃ X : Int, X = ((N / 256 * 256 + beU l 1 : Nat) : Int) := ⟨_, rfl⟩
  have hU := fun h1 h2 => @wholeN_up N 256 (beU l 1) 128 T X hTN hX (by decide) h1 h2
  have hW := fun h1 h2 h3 => @wholeN_down N 256 (beU l 1) 128 T X hTN hX (by decide) h1 h2 h3
  have hS := fun h1 h2 => @wholeN_same N 256 (beU l 1) 128 T X hTN hX (by decide) h1 h2
  have hX0 : 0 ≤ X := by omega
  have hX1 : X ≤ T + 1 + 256 := by omega
  have hX2 : T + 1 - 256 < X := by omega
  have hrw : T + 1 - (T + 1) % 256 + ((beU l 1 : Nat) : Int) = X := by omega
  have hB1 : ((beU l 1 : Nat) : Int) < 256 := by omega
  clear hTN hNlt hle hle2 hX
  have HU := Lib.hid hU
  have HW := Lib.hid hW
  have HT := Lib.hid hS
  clear hU hW hS hbl2
  have hB0 : 0 ≤ ((beU l 1 : Nat) : Int) := by omega
  generalize ((beU l 1 : Nat) : Int) = B at *
  by_cases a1 : X ≤ T + 1 - 128
  · by_cases a2 : X + 256 < 4611686018427387904
    · go_enter Try.func41, Try.ntmps41
      go_wp2
      go_quiet ((go_at_call 55; exact quiet_left (HN.out _)))
      go_wp2
      go_ret2
      refine ⟨?_, below_drewN (Below.refl _ _) _⟩
      rw [HE.out]
      exact ret_whole (HU.out (by omega) (by omega)).symm
    · have a3 : 4611686018427387904 ≤ X + 256 := by omega
      have a4 : X ≤ T + 1 + 128 := by omega
      clear a2
      go_enter Try.func41, Try.ntmps41
      go_wp2
      go_quiet ((go_at_call 55; exact quiet_left (HN.out _)))
      go_wp2
      go_ret2
      refine ⟨?_, below_drewN (Below.refl _ _) _⟩
      rw [HE.out]
      exact ret_whole (HT.out (by omega) (by omega)).symm
  · have a0 : T + 1 - 128 < X := by omega
    clear a1
    by_cases a2 : T + 1 + 128 < X
    · by_cases a3 : 256 ≤ X
      · go_enter Try.func41, Try.ntmps41
        go_wp2
        go_quiet ((go_at_call 55; exact quiet_left (HN.out _)))
        go_wp2
        go_ret2
        refine ⟨?_, below_drewN (Below.refl _ _) _⟩
        rw [HE.out]
        exact ret_whole (HW.out (by omega) (by omega) (by omega)).symm
      · have a4 : X < 256 := by omega
        clear a3
        go_enter Try.func41, Try.ntmps41
        go_wp2
        go_quiet ((go_at_call 55; exact quiet_left (HN.out _)))
        go_wp2
        go_ret2
        refine ⟨?_, below_drewN (Below.refl _ _) _⟩
        rw [HE.out]
        exact ret_whole (HT.out (by omega) (by omega)).symm
    · have a4 : X ≤ T + 1 + 128 := by omega
      clear a2
      go_enter Try.func41, Try.ntmps41
      go_wp2
      go_quiet ((go_at_call 55; exact quiet_left (HN.out _)))
      go_wp2
      go_ret2
      refine ⟨?_, below_drewN (Below.refl _ _) _⟩
      rw [HE.out]
      exact ret_whole (HT.out (by omega) (by omega)).symm

set_option maxRecDepth 100000 in
set_option maxHeartbeats 4000000 in
theorem wholeNumber_2 (S : Foot) (v : Value) (l : List UInt8) (T : Int) (w : World) (h : RBytes S w [v] l) (hlen : l.length = 2) (hT0 : -1 ≤ T) (hT1 : T ≤ 4611686018427387903) :
    Calls Try.prog 41 #[.int .i64 T, v] w fun e w' => e = wholeE T l ∧ Below w.heap.size w w' := by
  have HE := Lib.hid (show wholeE T l = .returned (.tuple #[.int .i64 (wholeN (T + 1).toNat 65536 (beU l 2)), .int .i64 0]) by
    unfold wholeE
    rw [if_neg (by omega), if_neg (by omega), hlen, show 256 ^ 2 = 65536 from by decide])
  have hcv : ∀ n, (convert 27 9 v).run Try.prog (w.drewN n) = .ok (.string (strOf l)) (w.drewN n) := fun n => run_string_of Try.underlying27 Try.underlying5 Try.underlying9 (w := w.drewN n) h
  have hnum : ∀ W, Calls Try.prog 55 #[.string (strOf l)] W fun e w' => e = .returned (.int .u64 ((beU l 2 : Nat) : Int)) ∧ W = w' := fun W => by
    have := number_calls (strOf l) W (by rw [strOf_size]; omega)
    rwa [strOf_list, strOf_size, hlen] at this
  have HN := Lib.hid hnum
  obtain ⟨A, c, hv, hl, hc, hl47, he⟩ := h.at_
  injection hv with hv _
  subst hv
  rw [hlen] at hl
  have hlI : (2 : Int) ≤ c := by omega
  rw [hlen] at hcv ⊢
  clear h he hlen hl47 hnum
  have hTN : T + 1 = ((T + 1).toNat : Int) := by omega
  have hNlt : (T + 1).toNat ≤ 4611686018427387904 := by omega
  generalize (T + 1).toNat = N at *
  have hbl2 : beU l 2 < 65536 := by have := beU_small l 2 (by omega); rwa [show 256 ^ 2 = 65536 from by decide] at this
  have hle : N / 65536 * 65536 ≤ N := Nat.div_mul_le_self _ _
  have hle2 : N < N / 65536 * 65536 + 65536 := by omega
  obtain ⟨X, hX⟩ : ∃ X : Int, X = ((N / 65536 * 65536 + beU l 2 : Nat) : Int) := ⟨_, rfl⟩
  have hU := fun h1 h2 => @wholeN_up N 65536 (beU l 2) 32768 T X hTN hX (by decide) h1 h2
  have hW := fun h1 h2 h3 => @wholeN_down N 65536 (beU l 2) 32768 T X hTN hX (by decide) h1 h2 h3
  have hS := fun h1 h2 => @wholeN_same N 65536 (beU l 2) 32768 T X hTN hX (by decide) h1 h2
  have hX0 : 0 ≤ X := by omega
  have hX1 : X ≤ T + 1 + 65536 := by omega
  have hX2 : T + 1 - 65536 < X := by omega
  have hrw : T + 1 - (T + 1) % 65536 + ((beU l 2 : Nat) : Int) = X := by omega
  have hB1 : ((beU l 2 : Nat) : Int) < 65536 := by omega
  clear hTN hNlt hle hle2 hX
  have HU := Lib.hid hU
  have HW := Lib.hid hW
  have HT := Lib.hid hS
  clear hU hW hS hbl2
  have hB0 : 0 ≤ ((beU l 2 : Nat) : Int) := by omega
  generalize ((beU l 2 : Nat) : Int) = B at *
  by_cases a1 : X ≤ T + 1 - 32768
  · by_cases a2 : X + 65536 < 4611686018427387904
    · go_enter Try.func41, Try.ntmps41
      go_wp2
      go_quiet ((go_at_call 55; exact quiet_left (HN.out _)))
      go_wp2
      go_ret2
      refine ⟨?_, below_drewN (Below.refl _ _) _⟩
      rw [HE.out]
      exact ret_whole (HU.out (by omega) (by omega)).symm
    · have a3 : 4611686018427387904 ≤ X + 65536 := by omega
      have a4 : X ≤ T + 1 + 32768 := by omega
      clear a2
      go_enter Try.func41, Try.ntmps41
      go_wp2
      go_quiet ((go_at_call 55; exact quiet_left (HN.out _)))
      go_wp2
      go_ret2
      refine ⟨?_, below_drewN (Below.refl _ _) _⟩
      rw [HE.out]
      exact ret_whole (HT.out (by omega) (by omega)).symm
  · have a0 : T + 1 - 32768 < X := by omega
    clear a1
    by_cases a2 : T + 1 + 32768 < X
    · by_cases a3 : 65536 ≤ X
      · go_enter Try.func41, Try.ntmps41
        go_wp2
        go_quiet ((go_at_call 55; exact quiet_left (HN.out _)))
        go_wp2
        go_ret2
        refine ⟨?_, below_drewN (Below.refl _ _) _⟩
        rw [HE.out]
        exact ret_whole (HW.out (by omega) (by omega) (by omega)).symm
      · have a4 : X < 65536 := by omega
        clear a3
        go_enter Try.func41, Try.ntmps41
        go_wp2
        go_quiet ((go_at_call 55; exact quiet_left (HN.out _)))
        go_wp2
        go_ret2
        refine ⟨?_, below_drewN (Below.refl _ _) _⟩
        rw [HE.out]
        exact ret_whole (HT.out (by omega) (by omega)).symm
    · have a4 : X ≤ T + 1 + 32768 := by omega
      clear a2
      go_enter Try.func41, Try.ntmps41
      go_wp2
      go_quiet ((go_at_call 55; exact quiet_left (HN.out _)))
      go_wp2
      go_ret2
      refine ⟨?_, below_drewN (Below.refl _ _) _⟩
      rw [HE.out]
      exact ret_whole (HT.out (by omega) (by omega)).symm

set_option maxRecDepth 100000 in
set_option maxHeartbeats 4000000 in
theorem wholeNumber_3 (S : Foot) (v : Value) (l : List UInt8) (T : Int) (w : World) (h : RBytes S w [v] l) (hlen : l.length = 3) (hT0 : -1 ≤ T) (hT1 : T ≤ 4611686018427387903) :
    Calls Try.prog 41 #[.int .i64 T, v] w fun e w' => e = wholeE T l ∧ Below w.heap.size w w' := by
  have HE := Lib.hid (show wholeE T l = .returned (.tuple #[.int .i64 (wholeN (T + 1).toNat 16777216 (beU l 3)), .int .i64 0]) by
    unfold wholeE
    rw [if_neg (by omega), if_neg (by omega), hlen, show 256 ^ 3 = 16777216 from by decide])
  have hcv : ∀ n, (convert 27 9 v).run Try.prog (w.drewN n) = .ok (.string (strOf l)) (w.drewN n) := fun n => run_string_of Try.underlying27 Try.underlying5 Try.underlying9 (w := w.drewN n) h
  have hnum : ∀ W, Calls Try.prog 55 #[.string (strOf l)] W fun e w' => e = .returned (.int .u64 ((beU l 3 : Nat) : Int)) ∧ W = w' := fun W => by
    have := number_calls (strOf l) W (by rw [strOf_size]; omega)
    rwa [strOf_list, strOf_size, hlen] at this
  have HN := Lib.hid hnum
  obtain ⟨A, c, hv, hl, hc, hl47, he⟩ := h.at_
  injection hv with hv _
  subst hv
  rw [hlen] at hl
  have hlI : (3 : Int) ≤ c := by omega
  rw [hlen] at hcv ⊢
  clear h he hlen hl47 hnum
  have hTN : T + 1 = ((T + 1).toNat : Int) := by omega
  have hNlt : (T + 1).toNat ≤ 4611686018427387904 := by omega
  generalize (T + 1).toNat = N at *
  have hbl2 : beU l 3 < 16777216 := by have := beU_small l 3 (by omega); rwa [show 256 ^ 3 = 16777216 from by decide] at this
  have hle : N / 16777216 * 16777216 ≤ N := Nat.div_mul_le_self _ _
  have hle2 : N < N / 16777216 * 16777216 + 16777216 := by omega
  obtain ⟨X, hX⟩ : ∃ X : Int, X = ((N / 16777216 * 16777216 + beU l 3 : Nat) : Int) := ⟨_, rfl⟩
  have hU := fun h1 h2 => @wholeN_up N 16777216 (beU l 3) 8388608 T X hTN hX (by decide) h1 h2
  have hW := fun h1 h2 h3 => @wholeN_down N 16777216 (beU l 3) 8388608 T X hTN hX (by decide) h1 h2 h3
  have hS := fun h1 h2 => @wholeN_same N 16777216 (beU l 3) 8388608 T X hTN hX (by decide) h1 h2
  have hX0 : 0 ≤ X := by omega
  have hX1 : X ≤ T + 1 + 16777216 := by omega
  have hX2 : T + 1 - 16777216 < X := by omega
  have hrw : T + 1 - (T + 1) % 16777216 + ((beU l 3 : Nat) : Int) = X := by omega
  have hB1 : ((beU l 3 : Nat) : Int) < 16777216 := by omega
  clear hTN hNlt hle hle2 hX
  have HU := Lib.hid hU
  have HW := Lib.hid hW
  have HT := Lib.hid hS
  clear hU hW hS hbl2
  have hB0 : 0 ≤ ((beU l 3 : Nat) : Int) := by omega
  generalize ((beU l 3 : Nat) : Int) = B at *
  by_cases a1 : X ≤ T + 1 - 8388608
  · by_cases a2 : X + 16777216 < 4611686018427387904
    · go_enter Try.func41, Try.ntmps41
      go_wp2
      go_quiet ((go_at_call 55; exact quiet_left (HN.out _)))
      go_wp2
      go_ret2
      refine ⟨?_, below_drewN (Below.refl _ _) _⟩
      rw [HE.out]
      exact ret_whole (HU.out (by omega) (by omega)).symm
    · have a3 : 4611686018427387904 ≤ X + 16777216 := by omega
      have a4 : X ≤ T + 1 + 8388608 := by omega
      clear a2
      go_enter Try.func41, Try.ntmps41
      go_wp2
      go_quiet ((go_at_call 55; exact quiet_left (HN.out _)))
      go_wp2
      go_ret2
      refine ⟨?_, below_drewN (Below.refl _ _) _⟩
      rw [HE.out]
      exact ret_whole (HT.out (by omega) (by omega)).symm
  · have a0 : T + 1 - 8388608 < X := by omega
    clear a1
    by_cases a2 : T + 1 + 8388608 < X
    · by_cases a3 : 16777216 ≤ X
      · go_enter Try.func41, Try.ntmps41
        go_wp2
        go_quiet ((go_at_call 55; exact quiet_left (HN.out _)))
        go_wp2
        go_ret2
        refine ⟨?_, below_drewN (Below.refl _ _) _⟩
        rw [HE.out]
        exact ret_whole (HW.out (by omega) (by omega) (by omega)).symm
      · have a4 : X < 16777216 := by omega
        clear a3
        go_enter Try.func41, Try.ntmps41
        go_wp2
        go_quiet ((go_at_call 55; exact quiet_left (HN.out _)))
        go_wp2
        go_ret2
        refine ⟨?_, below_drewN (Below.refl _ _) _⟩
        rw [HE.out]
        exact ret_whole (HT.out (by omega) (by omega)).symm
    · have a4 : X ≤ T + 1 + 8388608 := by omega
      clear a2
      go_enter Try.func41, Try.ntmps41
      go_wp2
      go_quiet ((go_at_call 55; exact quiet_left (HN.out _)))
      go_wp2
      go_ret2
      refine ⟨?_, below_drewN (Below.refl _ _) _⟩
      rw [HE.out]
      exact ret_whole (HT.out (by omega) (by omega)).symm

set_option maxRecDepth 100000 in
set_option maxHeartbeats 4000000 in
theorem wholeNumber_4 (S : Foot) (v : Value) (l : List UInt8) (T : Int) (w : World) (h : RBytes S w [v] l) (hlen : l.length = 4) (hT0 : -1 ≤ T) (hT1 : T ≤ 4611686018427387903) :
    Calls Try.prog 41 #[.int .i64 T, v] w fun e w' => e = wholeE T l ∧ Below w.heap.size w w' := by
  have HE := Lib.hid (show wholeE T l = .returned (.tuple #[.int .i64 (wholeN (T + 1).toNat 4294967296 (beU l 4)), .int .i64 0]) by
    unfold wholeE
    rw [if_neg (by omega), if_neg (by omega), hlen, show 256 ^ 4 = 4294967296 from by decide])
  have hcv : ∀ n, (convert 27 9 v).run Try.prog (w.drewN n) = .ok (.string (strOf l)) (w.drewN n) := fun n => run_string_of Try.underlying27 Try.underlying5 Try.underlying9 (w := w.drewN n) h
  have hnum : ∀ W, Calls Try.prog 55 #[.string (strOf l)] W fun e w' => e = .returned (.int .u64 ((beU l 4 : Nat) : Int)) ∧ W = w' := fun W => by
    have := number_calls (strOf l) W (by rw [strOf_size]; omega)
    rwa [strOf_list, strOf_size, hlen] at this
  have HN := Lib.hid hnum
  obtain ⟨A, c, hv, hl, hc, hl47, he⟩ := h.at_
  injection hv with hv _
  subst hv
  rw [hlen] at hl
  have hlI : (4 : Int) ≤ c := by omega
  rw [hlen] at hcv ⊢
  clear h he hlen hl47 hnum
  have hTN : T + 1 = ((T + 1).toNat : Int) := by omega
  have hNlt : (T + 1).toNat ≤ 4611686018427387904 := by omega
  generalize (T + 1).toNat = N at *
  have hbl2 : beU l 4 < 4294967296 := by have := beU_small l 4 (by omega); rwa [show 256 ^ 4 = 4294967296 from by decide] at this
  have hle : N / 4294967296 * 4294967296 ≤ N := Nat.div_mul_le_self _ _
  have hle2 : N < N / 4294967296 * 4294967296 + 4294967296 := by omega
  obtain ⟨X, hX⟩ : ∃ X : Int, X = ((N / 4294967296 * 4294967296 + beU l 4 : Nat) : Int) := ⟨_, rfl⟩
  have hU := fun h1 h2 => @wholeN_up N 4294967296 (beU l 4) 2147483648 T X hTN hX (by decide) h1 h2
  have hW := fun h1 h2 h3 => @wholeN_down N 4294967296 (beU l 4) 2147483648 T X hTN hX (by decide) h1 h2 h3
  have hS := fun h1 h2 => @wholeN_same N 4294967296 (beU l 4) 2147483648 T X hTN hX (by decide) h1 h2
  have hX0 : 0 ≤ X := by omega
  have hX1 : X ≤ T + 1 + 4294967296 := by omega
  have hX2 : T + 1 - 4294967296 < X := by omega
  have hrw : T + 1 - (T + 1) % 4294967296 + ((beU l 4 : Nat) : Int) = X := by omega
  have hB1 : ((beU l 4 : Nat) : Int) < 4294967296 := by omega
  clear hTN hNlt hle hle2 hX
  have HU := Lib.hid hU
  have HW := Lib.hid hW
  have HT := Lib.hid hS
  clear hU hW hS hbl2
  have hB0 : 0 ≤ ((beU l 4 : Nat) : Int) := by omega
  generalize ((beU l 4 : Nat) : Int) = B at *
  by_cases a1 : X ≤ T + 1 - 2147483648
  · by_cases a2 : X + 4294967296 < 4611686018427387904
    · go_enter Try.func41, Try.ntmps41
      go_wp2
      go_quiet ((go_at_call 55; exact quiet_left (HN.out _)))
      go_wp2
      go_ret2
      refine ⟨?_, below_drewN (Below.refl _ _) _⟩
      rw [HE.out]
      exact ret_whole (HU.out (by omega) (by omega)).symm
    · have a3 : 4611686018427387904 ≤ X + 4294967296 := by omega
      have a4 : X ≤ T + 1 + 2147483648 := by omega
      clear a2
      go_enter Try.func41, Try.ntmps41
      go_wp2
      go_quiet ((go_at_call 55; exact quiet_left (HN.out _)))
      go_wp2
      go_ret2
      refine ⟨?_, below_drewN (Below.refl _ _) _⟩
      rw [HE.out]
      exact ret_whole (HT.out (by omega) (by omega)).symm
  · have a0 : T + 1 - 2147483648 < X := by omega
    clear a1
    by_cases a2 : T + 1 + 2147483648 < X
    · by_cases a3 : 4294967296 ≤ X
      · go_enter Try.func41, Try.ntmps41
        go_wp2
        go_quiet ((go_at_call 55; exact quiet_left (HN.out _)))
        go_wp2
        go_ret2
        refine ⟨?_, below_drewN (Below.refl _ _) _⟩
        rw [HE.out]
        exact ret_whole (HW.out (by omega) (by omega) (by omega)).symm
      · have a4 : X < 4294967296 := by omega
        clear a3
        go_enter Try.func41, Try.ntmps41
        go_wp2
        go_quiet ((go_at_call 55; exact quiet_left (HN.out _)))
        go_wp2
        go_ret2
        refine ⟨?_, below_drewN (Below.refl _ _) _⟩
        rw [HE.out]
        exact ret_whole (HT.out (by omega) (by omega)).symm
    · have a4 : X ≤ T + 1 + 2147483648 := by omega
      clear a2
      go_enter Try.func41, Try.ntmps41
      go_wp2
      go_quiet ((go_at_call 55; exact quiet_left (HN.out _)))
      go_wp2
      go_ret2
      refine ⟨?_, below_drewN (Below.refl _ _) _⟩
      rw [HE.out]
      exact ret_whole (HT.out (by omega) (by omega)).symm

theorem wholeNumber_calls (S : Foot) (v : Value) (l : List UInt8) (T : Int) (w : World) (h : RBytes S w [v] l) :
    Calls Try.prog 41 #[.int .i64 T, v] w fun e w' => e = wholeE T l ∧ Below w.heap.size w w' := by
  by_cases ho : l.length < 1 ∨ 4 < l.length ∨ T < -1 ∨ 4611686018427387903 < T
  · exact wholeNumber_bad S v l T w h ho
  · by_cases h1 : l.length = 1
    · exact wholeNumber_1 S v l T w h h1 (by omega) (by omega)
    · by_cases h2 : l.length = 2
      · exact wholeNumber_2 S v l T w h h2 (by omega) (by omega)
      · by_cases h3 : l.length = 3
        · exact wholeNumber_3 S v l T w h h3 (by omega) (by omega)
        · exact wholeNumber_4 S v l T w h (by omega) (by omega) (by omega)
end Go.Proofs.Ytmfpfpllipogiaa
