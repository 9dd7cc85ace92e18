/-
  pace.Check, pace.fault and the reference's: what each answers. No condition.
-/
import Derived.Test.YthgmpeilolephaaTypes
set_option linter.unusedSimpArgs false
set_option linter.unusedVariables false
namespace Go.Proofs.Ythgmpeilolephaa
open Go.RowKit

/-- P12.1 -/
def paceOk (a b c d : Int) : Prop := 200 ≤ a ∧ a ≤ 1099511627776 ∧ 0 ≤ b ∧ b ≤ 1099511627776 ∧ 0 ≤ c ∧ c ≤ 1099511627776 ∧ -1 ≤ d ∧ d ≤ 1099511627776
instance (a b c d : Int) : Decidable (paceOk a b c d) := inferInstanceAs (Decidable (_ ∧ _))
def paceFlt (a b c d : Int) : Int := if paceOk a b c d then 0 else 9
theorem paceFlt_ok {a b c d : Int} (h : paceOk a b c d) : paceFlt a b c d = 0 := if_pos h
theorem paceFlt_bad {a b c d : Int} (h : ¬ paceOk a b c d) : paceFlt a b c d = 9 := if_neg h
def getI (l : List Int) (i : Nat) : Int := l.getD i 0
def timeOk (n : Int) : Bool := decide (0 ≤ n) && decide (n ≤ 1099511627776)
def timesOk (l : List Int) : Prop := ∀ i, i < l.length → timeOk (getI l i) = true
instance (l : List Int) : Decidable (timesOk l) := inferInstanceAs (Decidable (∀ i, i < l.length → _))
def timesFlt (l : List Int) : Int := if timesOk l then 0 else 6
theorem timesFlt_ok {l : List Int} (h : timesOk l) : timesFlt l = 0 := if_pos h
theorem timesFlt_bad {l : List Int} (h : ¬ timesOk l) : timesFlt l = 6 := if_neg h
def paceFltL (a b c d : Int) (l : List Int) : Int := if paceOk a b c d then timesFlt l else 9

theorem upto_succ {l : List Int} {k : Nat} (h : ∀ j, j < k → timeOk (getI l j) = true) (hk : timeOk (getI l k) = true) : ∀ j, j < k + 1 → timeOk (getI l j) = true := by
  intro j hj
  by_cases hjk : j < k
  · exact h j hjk
  · rw [show j = k by omega]; exact hk

abbrev RInts := RSlice 1 8 RInt
theorem RInts.at_ {S : Foot} {w : World} {cs : List Value} {l : List Int} (h : RInts S w cs l) :
    ∃ A c, cs = [.slice A l.length c] ∧ l.length ≤ c ∧ c ≤ 9223372036854775807 ∧ l.length * 8 ≤ 140737488355328 ∧
      (0 < l.length → ∃ b off, A = some ⟨b, off, none⟩ ∧ S b ∧ ∀ i, i < l.length → w.cell? ⟨b, off + i, none⟩ = some (.int .i64 (getI l i)) ∧ I64 (getI l i)) := by
  obtain ⟨A, c, rfl, hl, hm, hc, he⟩ := h.open_
  unfold maxLen at hm
  refine ⟨A, c, rfl, hl, hm, by omega, fun h0 => ?_⟩
  obtain ⟨b, off, rfl, hS, hi⟩ := he h0
  refine ⟨b, off, rfl, hS, fun i hlt => ?_⟩
  obtain ⟨es, h1, h2, h3⟩ := hi i hlt
  obtain ⟨he, h4⟩ := h3
  have e : getI l i = l[i] := by unfold getI; rw [List.getD_eq_getElem?_getD, List.getElem?_eq_getElem hlt, Option.getD_some]
  rw [e]
  have := h2 0 (by omega)
  rw [he] at this
  simp only [Nat.mul_one, Nat.add_zero, List.getElem?_cons_zero] at this
  exact ⟨this, h4⟩

set_option maxHeartbeats 1000000 in
theorem paceCheck_calls (a b c d : Int) (w : World) :
    Calls Try.prog 79 #[.agg #[.int .i64 a, .int .i64 b, .int .i64 c, .int .i64 d]] w fun e w' => e = .returned (.int .i64 (paceFlt a b c d)) ∧ Below w.heap.size w w' := by
  go_enter Try.func79, Try.ntmps79
  go_wp2
  all_goals
    go_ret
    refine ⟨ret_int ?_, by go_grown⟩
    first | exact (paceFlt_ok (by unfold paceOk; omega)).symm | exact (paceFlt_bad (by unfold paceOk; omega)).symm

set_option maxHeartbeats 1000000 in
theorem paceFault_calls (a b c d : Int) (hd : I64 d) (w : World) :
    Calls Try.prog 80 #[.agg #[.int .i64 a, .int .i64 b, .int .i64 c, .int .i64 d]] w fun e w' => e = .returned (.int .i64 (paceFlt a b c d)) ∧ Below w.heap.size w w' := by
  obtain ⟨hd1, hd2⟩ := hd
  by_cases hx : d ≤ 9223372036854775806
  · go_enter Try.func80, Try.ntmps80
    go_wp2_with (go_at_call 53; refine (upTo_calls _ _ _).mono ?_; rintro e _ ⟨rfl, rfl⟩)
    all_goals
      go_ret
      refine ⟨ret_int ?_, by go_grown⟩
      (try simp only [Bool.not_eq_true', Bool.not_eq_false', Bool.and_eq_true, Bool.or_eq_true, Bool.and_eq_false_iff, Bool.or_eq_false_iff, decide_eq_true_eq, decide_eq_false_iff_not, Int.not_le, Int.not_lt] at *)
      first | exact (paceFlt_ok (by unfold paceOk; omega)).symm | exact (paceFlt_bad (by unfold paceOk; omega)).symm
  · have hx2 : d = 9223372036854775807 := by omega
    subst hx2
    have hb : ¬ paceOk a b c 9223372036854775807 := by unfold paceOk; omega
    rw [paceFlt_bad hb]
    clear hb hd1 hd2 hx
    have hw : wrap64 9223372036854775808 = -9223372036854775808 := by unfold wrap64; omega
    have hw1 : decide ((0 : Int) ≤ -9223372036854775808) = false := by simp
    go_enter Try.func80, Try.ntmps80
    go_wp2_with (go_at_call 53; refine (upTo_calls _ _ _).mono ?_; rintro e _ ⟨rfl, rfl⟩)
    all_goals
      go_ret
      refine ⟨ret_int ?_, by go_grown⟩
      first
        | rfl
        | (exfalso; simp [hw] at *; done)
        | (exfalso; simp_all; done)

set_option maxHeartbeats 1000000 in
theorem pfault_calls (S : Foot) (v : Value) (l : List Int) (a b c d : Int) (w : World) (hS : ∀ b, S b → b < w.heap.size) (h : RInts S w [v] l) :
    Calls Try.prog 60 #[.agg #[.int .i64 a, .int .i64 b, .int .i64 c, .int .i64 d], v] w fun e w' => e = .returned (.int .i64 (paceFltL a b c d l)) ∧ Below w.heap.size w w' := by
  have hx := paceCheck_calls a b c d
  by_cases ho : paceOk a b c d
  · rw [paceFlt_ok ho] at hx
    rw [show paceFltL a b c d l = timesFlt l from if_pos ho]
    have HX := Lib.hid hx
    clear hx ho
    obtain ⟨A, cp, hv, hl, hc, hl47, he⟩ := h.at_
    injection hv with hv _
    subst hv
    have HE := Lib.hid he
    clear h he
    go_enter Try.func60, Try.ntmps60
    go_wp2_with (go_at_call 79; refine (HX.out _).mono ?_; rintro e w1 ⟨rfl, hb1⟩; have hB1 := binto (by go_grown : Below w.heap.size w _) (by go_size) hb1; obtain ⟨hc1, hd1, hz1⟩ := bcell hb1; (try simp only [World.size_alloc, World.size_setCell, World.size_drew] at hz1); have c1_0 := fun o => hc1 (w.heap.size) o (by go_size); have d1_0 := fun o => hd1 (w.heap.size) o (by go_size); have z1_0 : w.heap.size < w1.heap.size := (by omega); have hk1 := Lib.hid hb1.block; clear hc1 hd1 hb1)
    go_loop [15] (fun i => ∃ k : Nat, k ≤ l.length ∧ i = .int .i64 k ∧ ∀ j, j < k → timeOk (getI l j) = true) (fun i => l.length - (intOf i).toNat)
    case atStart => exact ⟨0, by omega, by go_num, fun j hj => by omega⟩
    case round =>
      obtain ⟨k, hk, rfl, hok⟩ := hrel
      have HOK := Lib.hid hok
      clear hok
      by_cases hkk : k < l.length
      · obtain ⟨b', off, rfl, hSb, hcell⟩ := HE.out (by omega)
        have hbl := hS b' hSb
        obtain ⟨c0, i0⟩ := hcell k hkk
        rw [← hB1.cell (p := ⟨b', off + k, none⟩) hbl] at c0
        clear hcell HE
        have hA : timeOk (getI l k) = (decide (0 ≤ getI l k) && decide (getI l k ≤ 1099511627776)) := rfl
        by_cases hg : timeOk (getI l k) = true
        · have HG := Lib.hid (upto_succ HOK.out hg)
          rw [hg] at hA
          have hA2 := hA.symm
          simp only [Bool.and_eq_true, decide_eq_true_eq] at hA2
          obtain ⟨g1, g2⟩ := hA2
          clear hA hg
          generalize getI l k = x at *
          go_wp2
          exact ⟨⟨k + 1, by omega, by go_num, HG.out⟩, by simp [intOf]; omega⟩
        · have HN := Lib.hid (show ¬ timesOk l from fun hall => hg (hall k hkk))
          have hg2 : getI l k < 0 ∨ 1099511627776 < getI l k := by
            rw [hA] at hg
            simp at hg
            omega
          clear hA hg
          generalize getI l k = x at *
          by_cases hx0 : x < 0
          · go_wp2
            all_goals
              go_ret
              rw [timesFlt_bad HN.out]
              refine ⟨rfl, by go_grown⟩
          · have hx1 : 1099511627776 < x := by omega
            go_wp2
            all_goals
              go_ret
              rw [timesFlt_bad HN.out]
              refine ⟨rfl, by go_grown⟩
      · have hkl : k = l.length := by omega
        have HN := Lib.hid (show timesOk l from fun i hi => HOK.out i (by omega))
        go_wp2
        all_goals
          go_ret
          rw [timesFlt_ok HN.out]
          refine ⟨rfl, by go_grown⟩
  · rw [paceFlt_bad ho] at hx
    rw [show paceFltL a b c d l = 9 from if_neg ho]
    have HX := Lib.hid hx
    clear hx ho
    go_enter Try.func60, Try.ntmps60
    go_wp2_with (go_at_call 79; refine (HX.out _).mono ?_; rintro e w1 ⟨rfl, hb1⟩; have hB1 := binto (by go_grown : Below w.heap.size w _) (by go_size) hb1; obtain ⟨hc1, hd1, hz1⟩ := bcell hb1; (try simp only [World.size_alloc, World.size_setCell, World.size_drew] at hz1); have c1_0 := fun o => hc1 (w.heap.size) o (by go_size); have d1_0 := fun o => hd1 (w.heap.size) o (by go_size); have z1_0 : w.heap.size < w1.heap.size := (by omega); have hk1 := Lib.hid hb1.block; clear hc1 hd1 hb1)
    all_goals
      go_ret
      refine ⟨rfl, by go_grown⟩

set_option maxHeartbeats 1000000 in
theorem pfaultRef_calls (S : Foot) (v : Value) (l : List Int) (a b c d : Int) (hd : I64 d) (w : World) (hS : ∀ b, S b → b < w.heap.size) (h : RInts S w [v] l) :
    Calls Try.prog 61 #[.agg #[.int .i64 a, .int .i64 b, .int .i64 c, .int .i64 d], v] w fun e w' => e = .returned (.int .i64 (paceFltL a b c d l)) ∧ Below w.heap.size w w' := by
  have hx := paceFault_calls a b c d hd
  obtain ⟨A, cp, hv, hl, hc, hl47, he⟩ := h.at_
  injection hv with hv _
  subst hv
  have HE := Lib.hid he
  clear h he
  by_cases ho : paceOk a b c d
  · rw [paceFlt_ok ho] at hx
    rw [show paceFltL a b c d l = timesFlt l from if_pos ho]
    have HX := Lib.hid hx
    clear hx ho
    go_enter Try.func61, Try.ntmps61
    go_wp2_with (go_at_call 80; refine (HX.out _).mono ?_; rintro e w1 ⟨rfl, hb1⟩; have hB1 := binto (by go_grown : Below w.heap.size w _) (by go_size) hb1; obtain ⟨hc1, hd1, hz1⟩ := bcell hb1; (try simp only [World.size_alloc, World.size_setCell, World.size_drew] at hz1); have c1_0 := fun o => hc1 (w.heap.size) o (by go_size); have d1_0 := fun o => hd1 (w.heap.size) o (by go_size); have z1_0 : w.heap.size < w1.heap.size := (by omega); have hk1 := Lib.hid hb1.block; clear hc1 hd1 hb1)
    go_loop [5, 12] (fun e i => ∃ k : Nat, k ≤ l.length ∧ i = .int .i64 k ∧ ((e = .int .i64 0 ∧ ∀ j, j < k → timeOk (getI l j) = true) ∨ (e = .int .i64 6 ∧ ¬ timesOk l))) (fun _ i => l.length - (intOf i).toNat)
    case atStart => exact ⟨0, by omega, by go_num, Or.inl ⟨rfl, fun j hj => by omega⟩⟩
    case round =>
      obtain ⟨k, hk, rfl, hok⟩ := hrel
      by_cases hkk : k < l.length
      · obtain ⟨b', off, rfl, hSb, hcell⟩ := HE.out (by omega)
        have hbl := hS b' hSb
        obtain ⟨c0, i0⟩ := hcell k hkk
        rw [← hB1.cell (p := ⟨b', off + k, none⟩) hbl] at c0
        clear hcell HE
        rcases hok with ⟨rfl, hok⟩ | ⟨rfl, hno⟩
        · have HOK := Lib.hid hok
          clear hok
          have hU := upTo_calls (getI l k) 1099511627776
          rw [show (decide (0 ≤ getI l k) && decide (getI l k ≤ 1099511627776)) = timeOk (getI l k) from rfl] at hU
          by_cases hg : timeOk (getI l k) = true
          · have HG := Lib.hid (upto_succ HOK.out hg)
            rw [hg] at hU
            have HU := Lib.hid hU
            clear hU hg
            generalize getI l k = x at *
            go_wp2_with (go_at_call 53; refine (HU.out _).mono ?_; rintro e _ ⟨rfl, rfl⟩)
            exact ⟨⟨k + 1, by omega, by go_num, Or.inl ⟨rfl, HG.out⟩⟩, by simp [intOf]; omega⟩
          · have HN := Lib.hid (show ¬ timesOk l from fun hall => hg (hall k hkk))
            rw [show timeOk (getI l k) = false from by simpa using hg] at hU
            have HU := Lib.hid hU
            clear hU hg
            generalize getI l k = x at *
            go_wp2_with (go_at_call 53; refine (HU.out _).mono ?_; rintro e _ ⟨rfl, rfl⟩)
            exact ⟨⟨k + 1, by omega, by go_num, Or.inr ⟨rfl, HN.out⟩⟩, by simp [intOf]; omega⟩
        · have HN := Lib.hid hno
          clear hno
          generalize getI l k = x at *
          go_wp2
          exact ⟨⟨k + 1, by omega, by go_num, Or.inr ⟨rfl, HN.out⟩⟩, by simp [intOf]; omega⟩
      · have hkl : k = l.length := by omega
        have HF := Lib.hid hok
        rcases hok with ⟨rfl, hok⟩ | ⟨rfl, hno⟩
        · have HN := Lib.hid (show timesOk l from fun i hi => hok i (by omega))
          clear hok HF
          go_wp2
          all_goals
            go_ret
            rw [timesFlt_ok HN.out]
            refine ⟨rfl, by go_grown⟩
        · have HN := Lib.hid hno
          clear hno HF
          go_wp2
          all_goals
            go_ret
            rw [timesFlt_bad HN.out]
            refine ⟨rfl, by go_grown⟩
  · rw [paceFlt_bad ho] at hx
    rw [show paceFltL a b c d l = 9 from if_neg ho]
    have HX := Lib.hid hx
    clear hx ho
    go_enter Try.func61, Try.ntmps61
    go_wp2_with (go_at_call 80; refine (HX.out _).mono ?_; rintro e w1 ⟨rfl, hb1⟩; have hB1 := binto (by go_grown : Below w.heap.size w _) (by go_size) hb1; obtain ⟨hc1, hd1, hz1⟩ := bcell hb1; (try simp only [World.size_alloc, World.size_setCell, World.size_drew] at hz1); have c1_0 := fun o => hc1 (w.heap.size) o (by go_size); have d1_0 := fun o => hd1 (w.heap.size) o (by go_size); have z1_0 : w.heap.size < w1.heap.size := (by omega); have hk1 := Lib.hid hb1.block; clear hc1 hd1 hb1)
    go_loop [5, 12] (fun e i => e = .int .i64 9 ∧ ∃ k : Nat, k ≤ l.length ∧ i = .int .i64 k) (fun _ i => l.length - (intOf i).toNat)
    case atStart => exact ⟨rfl, 0, by omega, by go_num⟩
    case round =>
      obtain ⟨rfl, k, hk, rfl⟩ := hrel
      by_cases hkk : k < l.length
      · obtain ⟨b', off, rfl, hSb, hcell⟩ := HE.out (by omega)
        have hbl := hS b' hSb
        obtain ⟨c0, i0⟩ := hcell k hkk
        rw [← hB1.cell (p := ⟨b', off + k, none⟩) hbl] at c0
        clear hcell HE
        generalize getI l k = x at *
        go_wp2
        exact ⟨⟨rfl, k + 1, by omega, by go_num⟩, by simp [intOf]; omega⟩
      · go_wp2
        all_goals
          go_ret
          refine ⟨rfl, by go_grown⟩

theorem rints_one {W : World} {blk : Nat} {n : Int} (hn : I64 n) (hc : W.cell? ⟨blk, 0, none⟩ = some (.int .i64 n)) (S : Foot) (hS : S blk) : RInts S W [.slice (some ⟨blk, 0, none⟩) 1 1] [n] := by
  refine ⟨some ⟨blk, 0, none⟩, 1, rfl, Nat.le_refl _, by unfold maxLen; omega, by simp, fun i hi => ?_⟩
  have h0 : i = 0 := by simpa using hi
  subst h0
  refine ⟨blk, 0, [.int .i64 n], rfl, hS, rfl, fun j hj => ?_, rfl, hn⟩
  have hj0 : j = 0 := by omega
  subst hj0
  exact hc
theorem timesFlt_one (n : Int) : timesFlt [n] = if timeOk n then 0 else 6 := by
  unfold timesFlt
  by_cases h : timeOk n = true
  · rw [if_pos h, if_pos (show timesOk [n] from fun i hi => by have h0 : i = 0 := (by simpa using hi); rw [h0]; exact h)]
  · rw [if_neg h, if_neg (show ¬ timesOk [n] from fun hall => h (hall 0 (by simp)))]
def paceFlt1 (a b c d n : Int) : Int := if paceOk a b c d then (if timeOk n then 0 else 6) else 9
theorem paceFltL_one (a b c d n : Int) : paceFltL a b c d [n] = paceFlt1 a b c d n := by unfold paceFltL paceFlt1; rw [timesFlt_one]

theorem pfault1_calls (a b c d n : Int) (hn : I64 n) (blk : Nat) (W : World) (hc : W.cell? ⟨blk, 0, none⟩ = some (.int .i64 n)) (hb : blk < W.heap.size) :
    Calls Try.prog 60 #[.agg #[.int .i64 a, .int .i64 b, .int .i64 c, .int .i64 d], .slice (some ⟨blk, 0, none⟩) 1 1] W fun e w' => e = .returned (.int .i64 (paceFlt1 a b c d n)) ∧ Below W.heap.size W w' := by
  rw [← paceFltL_one]
  exact pfault_calls (fun b => b = blk) _ _ a b c d W (fun b h => by rw [h]; exact hb) (rints_one hn hc _ rfl)
theorem pfaultRef1_calls (a b c d n : Int) (hn : I64 n) (hd : I64 d) (blk : Nat) (W : World) (hc : W.cell? ⟨blk, 0, none⟩ = some (.int .i64 n)) (hb : blk < W.heap.size) :
    Calls Try.prog 61 #[.agg #[.int .i64 a, .int .i64 b, .int .i64 c, .int .i64 d], .slice (some ⟨blk, 0, none⟩) 1 1] W fun e w' => e = .returned (.int .i64 (paceFlt1 a b c d n)) ∧ Below W.heap.size W w' := by
  rw [← paceFltL_one]
  exact pfaultRef_calls (fun b => b = blk) _ _ a b c d hd W (fun b h => by rw [h]; exact hb) (rints_one hn hc _ rfl)

theorem paceFlt1_zero {a b c d n : Int} (h : paceFlt1 a b c d n = 0) : paceOk a b c d ∧ 0 ≤ n ∧ n ≤ 1099511627776 := by
  unfold paceFlt1 at h
  split at h
  · split at h
    · rename_i h1 h2
      unfold timeOk at h2
      simp only [Bool.and_eq_true, decide_eq_true_eq] at h2
      exact ⟨h1, h2⟩
    · omega
  · omega

end Go.Proofs.Ythgmpeilolephaa
