/-
  ranges.Has and the reference's RangesFault, RangeHas. No condition.
-/
import Derived.Test.YtmfpfpllipogiaaRanges
set_option linter.unusedSimpArgs false
set_option linter.unusedVariables false
namespace Go.Proofs.Ytmfpfpllipogiaa
open Go.RowKit
@[no_fallback] local macro_rules | `(tactic| go_region) => `(tactic| fail "at a region")

def hasAt (l : List DRange) (n : Int) (i : Nat) : Bool := decide ((getR l i).Lo ≤ n) && decide (n ≤ (getR l i).Hi)
def hasNone (l : List DRange) (n : Int) : Prop := ∀ i, i < l.length → hasAt l n i = false
instance (l : List DRange) (n : Int) : Decidable (hasNone l n) := inferInstanceAs (Decidable (∀ i, i < l.length → _))
/-- P3.5 -/
def hasE (l : List DRange) (n : Int) : Ending :=
  if rangesOk l then .returned (.tuple #[.bool (!decide (hasNone l n)), .int .i64 0]) else .returned (.tuple #[.bool false, .int .i64 3])
theorem rangesFault_ok {l : List DRange} (h : rangesOk l) : rangesFault l = 0 := if_pos h
theorem rangesFault_bad {l : List DRange} (h : ¬ rangesOk l) : rangesFault l = 3 := if_neg h

set_option maxRecDepth 100000 in
set_option maxHeartbeats 2000000 in
theorem rangesHas_calls (S : Foot) (v : Value) (l : List DRange) (n : Int) (w : World) (hS : ∀ b, S b → b < w.heap.size) (h : RRanges S w [v] l) :
    Calls Try.prog 31 #[v, .int .i64 n] w fun e w' => e = hasE l n ∧ Below w.heap.size w w' := by
  have hx := rangesCheck_calls S v l w hS h
  by_cases ho : rangesOk l
  · rw [rangesFault_ok ho] at hx
    have HX := Lib.hid hx
    obtain ⟨A, c, hv, hl, hc, hl47, he⟩ := h.at_
    injection hv with hv _
    subst hv
    have HE := Lib.hid he
    have HO := Lib.hid ho
    clear h he hx ho
    go_enter Try.func31, Try.ntmps31
    go_wp2_with (go_at_call 30; refine (HX.out).mono ?_; rintro e w1 ⟨rfl, hb1⟩; have hB1 := binto (by go_grown : Below w.heap.size w _) (by go_size) hb1; obtain ⟨hc1, hd1, hz1⟩ := bcell hb1; (try simp only [World.size_alloc, World.size_setCell, World.size_drew] at hz1); have hk1 := Lib.hid hb1.block; clear hc1 hd1 hb1)
    go_loopw [16] (fun i wr => ∃ k : Nat, k ≤ l.length ∧ i = .int .i64 k ∧ (∀ j, j < k → hasAt l n j = false) ∧ Below w.heap.size w wr) (fun i _ => l.length - (intOf i).toNat)
    case atStart => exact ⟨0, by omega, by go_num, fun j hj => by omega, hB1⟩
    case round =>
      obtain ⟨k, hk, rfl, hok, hb⟩ := hrel
      have HOK := Lib.hid hok
      clear hok
      have hbz := hb.size
      by_cases hkk : k < l.length
      · obtain ⟨b, off, rfl, hSb, hcell⟩ := HE.out (by omega)
        have hbl := hS b hSb
        obtain ⟨c0, c1, i0, i1⟩ := hcell k hkk
        rw [← hb.cell (p := ⟨b, off + k * 2, none⟩) hbl] at c0
        rw [← hb.cell (p := ⟨b, off + k * 2 + 1, none⟩) hbl] at c1
        clear hcell HE
        have hA : hasAt l n k = (decide ((getR l k).Lo ≤ n) && decide (n ≤ (getR l k).Hi)) := rfl
        generalize (getR l k).Lo = x at *
        generalize (getR l k).Hi = y at *
        by_cases h1 : x ≤ n
        · by_cases h2 : n ≤ y
          · have HN : Hid (¬ hasNone l n) := by
              show ¬ hasNone l n
              intro hall
              have := hall k hkk
              rw [hA] at this
              simp [h1, h2] at this
            clear hA
            go_wp2
            all_goals
              ((try simp only [Exit.inBlock, Exit.then]); refine bodyPost_ret (by simp [results, Try.results31, go_sem]; try rfl) rfl ?_)
              refine ⟨?_, by go_grown⟩
              unfold hasE
              rw [if_pos HO.out]
              simp [HN.out]
          · have HN : Hid (hasAt l n k = false) := by show hasAt l n k = false; rw [hA]; simp; omega
            clear hA
            go_wp2
            refine ⟨⟨k + 1, by omega, by go_num, fun j hj => ?_, by go_grown⟩, by simp [intOf]; omega⟩
            by_cases hjk : j < k
            · exact HOK.out j hjk
            · rw [show j = k by omega]; exact HN.out
        · have HN : Hid (hasAt l n k = false) := by show hasAt l n k = false; rw [hA]; simp; omega
          clear hA
          go_wp2
          refine ⟨⟨k + 1, by omega, by go_num, fun j hj => ?_, by go_grown⟩, by simp [intOf]; omega⟩
          by_cases hjk : j < k
          · exact HOK.out j hjk
          · rw [show j = k by omega]; exact HN.out
      · have hkl : k = l.length := by omega
        have HN : Hid (hasNone l n) := fun i hi => HOK.out i (by omega)
        go_wp2
        all_goals
          ((try simp only [Exit.inBlock, Exit.then]); refine bodyPost_ret (by simp [results, Try.results31, go_sem]; try rfl) rfl ?_)
          refine ⟨?_, hb⟩
          unfold hasE
          rw [if_pos HO.out]
          simp [HN.out]
  · rw [rangesFault_bad ho] at hx
    have HX := Lib.hid hx
    have HO := Lib.hid ho
    obtain ⟨A, c, hv, hl, hc, hl47, he⟩ := h.at_
    injection hv with hv _
    subst hv
    clear hx ho h he
    go_enter Try.func31, Try.ntmps31
    go_wp2_with (go_at_call 30; refine (HX.out).mono ?_; rintro e w1 ⟨rfl, hb1⟩; have hB1 := binto (by go_grown : Below w.heap.size w _) (by go_size) hb1; obtain ⟨hc1, hd1, hz1⟩ := bcell hb1; (try simp only [World.size_alloc, World.size_setCell, World.size_drew] at hz1); have hk1 := Lib.hid hb1.block; clear hc1 hd1 hb1)
    all_goals
      ((try simp only [Exit.inBlock, Exit.then]); refine bodyPost_ret (by simp [results, Try.results31, go_sem]; try rfl) rfl ?_)
      refine ⟨?_, by go_grown⟩
      unfold hasE
      rw [if_neg HO.out]

def lastR (l : List DRange) : Nat → Int
  | 0 => -2
  | k + 1 => (getR l k).Hi
theorem okAt_last (l : List DRange) (k : Nat) : okAt l k = (goodR (getR l k) && decide (lastR l k + 2 ≤ (getR l k).Lo)) := by
  unfold okAt
  cases k with
  | zero =>
    by_cases hg : goodR (getR l 0) = true
    · have h := hg
      unfold goodR at h
      simp only [Bool.and_eq_true, decide_eq_true_eq] at h
      rw [hg]
      have hx : 0 ≤ (getR l 0).Lo := by omega
      simp [lastR, hx]
    · rw [Bool.not_eq_true] at hg
      rw [hg]; rfl
  | succ m =>
    congr 1
    show decide _ = decide _
    simp only [lastR, Nat.add_sub_cancel, Nat.add_eq_zero_iff, Nat.one_ne_zero, and_false, decide_false, Bool.false_or]
    apply decide_eq_decide.mpr
    constructor <;> intro h <;> omega
theorem lastR_bound (l : List DRange) (k : Nat) (h : ∀ j, j < k → okAt l j = true) : -2 ≤ lastR l k ∧ lastR l k ≤ 4611686018427387903 := by
  cases k with
  | zero => simp [lastR]
  | succ m =>
    have := h m (by omega)
    unfold okAt at this
    rw [Bool.and_eq_true] at this
    have h := this.1
    unfold goodR at h
    simp only [Bool.and_eq_true, decide_eq_true_eq] at h
    simp only [lastR]
    omega

set_option maxRecDepth 100000 in
set_option maxHeartbeats 2000000 in
theorem refFault_calls (S : Foot) (v : Value) (l : List DRange) (w : World) (hS : ∀ b, S b → b < w.heap.size) (h : RRanges S w [v] l) :
    Calls Try.prog 32 #[v] w fun e w' => e = .returned (.int .i64 (rangesFault l)) ∧ Below w.heap.size w w' := by
  obtain ⟨A, c, hv, hl, hc, hl47, he⟩ := h.at_
  injection hv with hv _
  subst hv
  have HE := Lib.hid he
  clear h he
  go_enter Try.func32, Try.ntmps32
  go_wp2
  go_loopw [3, 8] (fun la i wr => ∃ k : Nat, k ≤ l.length ∧ i = .int .i64 k ∧ la = .int .i64 (lastR l k) ∧ (∀ j, j < k → okAt l j = true) ∧ Below w.heap.size w wr) (fun _ i _ => l.length - (intOf i).toNat)
  case atStart => exact ⟨0, by omega, by go_num, rfl, fun j hj => by omega, Below.refl _ _⟩
  case round =>
    obtain ⟨k, hk, rfl, rfl, hok, hb⟩ := hrel
    have hbz := hb.size
    by_cases hkk : k < l.length
    · obtain ⟨b, off, rfl, hSb, hcell⟩ := HE.out (by omega)
      have hbl := hS b hSb
      obtain ⟨c0, c1, i0, i1⟩ := hcell k hkk
      rw [← hb.cell (p := ⟨b, off + k * 2, none⟩) hbl] at c0
      rw [← hb.cell (p := ⟨b, off + k * 2 + 1, none⟩) hbl] at c1
      clear hcell HE
      have hG := isRange_calls (getR l k).Lo (getR l k).Hi
      have hA := okAt_last l k
      have hL := lastR_bound l k hok
      have hL2 : lastR l (k + 1) = (getR l k).Hi := rfl
      have HL2 := Lib.hid hL2
      have HOK := Lib.hid hok
      clear hok hL2
      by_cases hg : goodR (getR l k) = true
      · rw [show goodR ⟨(getR l k).Lo, (getR l k).Hi⟩ = true from hg] at hG
        have HG := Lib.hid hG
        rw [hg, Bool.true_and] at hA
        clear hG hg
        generalize (getR l k).Lo = x at *
        generalize (getR l k).Hi = y at *
        generalize lastR l k = z at *
        have hm4 : IntKind.i64.wrap (z + 2) = z + 2 := by rw [IntKind.wrap_i64]; omega
        by_cases hlo : z + 2 ≤ x
        · have HOK1 : Hid (okAt l k = true) := by show okAt l k = true; rw [hA]; simpa using hlo
          have hlo2 : decide (x < z + 2) = false := by simp; omega
          clear hA
          go_wp2_with (go_at_call 59; refine (HG.out _).mono ?_; rintro e w1 ⟨rfl, hb1⟩; have hB1 := binto (by go_grown : Below w.heap.size w _) (by go_size) hb1; obtain ⟨hc1, hd1, hz1⟩ := bcell hb1; (try simp only [World.size_alloc, World.size_setCell, World.size_drew] at hz1); have c1_0 := fun o => hc1 (wr.heap.size) o (by go_size); have d1_0 := fun o => hd1 (wr.heap.size) o (by go_size); have z1_0 : wr.heap.size < w1.heap.size := (by omega); have hk1 := Lib.hid hb1.block; clear hc1 hd1 hb1)
          refine ⟨⟨k + 1, by omega, by go_num, by rw [HL2.out], fun j hj => ?_, by go_grown⟩, by simp [intOf]; omega⟩
          by_cases hjk : j < k
          · exact HOK.out j hjk
          · rw [show j = k by omega]; exact HOK1.out
        · have HOK1 : Hid (¬ rangesOk l) := by
            show ¬ rangesOk l
            intro hall
            have := hall k hkk
            rw [hA] at this
            exact hlo (by simpa using this)
          have hlo2 : decide (x < z + 2) = true := by simp; omega
          clear hA
          go_wp2_with (go_at_call 59; refine (HG.out _).mono ?_; rintro e w1 ⟨rfl, hb1⟩; have hB1 := binto (by go_grown : Below w.heap.size w _) (by go_size) hb1; obtain ⟨hc1, hd1, hz1⟩ := bcell hb1; (try simp only [World.size_alloc, World.size_setCell, World.size_drew] at hz1); have c1_0 := fun o => hc1 (wr.heap.size) o (by go_size); have d1_0 := fun o => hd1 (wr.heap.size) o (by go_size); have z1_0 : wr.heap.size < w1.heap.size := (by omega); have hk1 := Lib.hid hb1.block; clear hc1 hd1 hb1)
          all_goals
            go_ret
            rw [rangesFault_bad HOK1.out]
            exact ⟨rfl, by go_grown⟩
      · have hg2 : goodR ⟨(getR l k).Lo, (getR l k).Hi⟩ = false := by simpa using hg
        rw [hg2] at hG
        have HG := Lib.hid hG
        have HOK1 : Hid (¬ rangesOk l) := by
          show ¬ rangesOk l
          intro hall
          have := hall k hkk
          rw [hA, Bool.and_eq_true] at this
          exact hg this.1
        clear hG hg hg2 hA
        generalize (getR l k).Lo = x at *
        generalize (getR l k).Hi = y at *
        generalize lastR l k = z at *
        go_wp2_with (go_at_call 59; refine (HG.out _).mono ?_; rintro e w1 ⟨rfl, hb1⟩; have hB1 := binto (by go_grown : Below w.heap.size w _) (by go_size) hb1; obtain ⟨hc1, hd1, hz1⟩ := bcell hb1; (try simp only [World.size_alloc, World.size_setCell, World.size_drew] at hz1); have c1_0 := fun o => hc1 (wr.heap.size) o (by go_size); have d1_0 := fun o => hd1 (wr.heap.size) o (by go_size); have z1_0 : wr.heap.size < w1.heap.size := (by omega); have hk1 := Lib.hid hb1.block; clear hc1 hd1 hb1)
        all_goals
          go_ret
          rw [rangesFault_bad HOK1.out]
          exact ⟨rfl, by go_grown⟩
    · have hkl : k = l.length := by omega
      have hall : rangesFault l = 0 := if_pos (fun i hi => hok i (by omega))
      clear hok
      go_wp2
      all_goals
        go_ret
        rw [hall]
        exact ⟨rfl, hb⟩

set_option maxRecDepth 100000 in
set_option maxHeartbeats 2000000 in
theorem inside_calls (S : Foot) (v : Value) (l : List DRange) (n : Int) (w : World) (hS : ∀ b, S b → b < w.heap.size) (h : RRanges S w [v] l) (ho : rangesOk l) (hn : 0 ≤ n) (hn2 : n ≤ 9223372036854775807) :
    Calls Try.prog 60 #[v, .int .i64 n] w fun e w' => e = .returned (.bool (!decide (hasNone l n))) ∧ Below w.heap.size w w' := by
  obtain ⟨A, c, hv, hl, hc, hl47, he⟩ := h.at_
  injection hv with hv _
  subst hv
  have HE := Lib.hid he
  have HO := Lib.hid ho
  clear h he ho
  go_enter Try.func60, Try.ntmps60
  go_wp2
  go_loopw [9] (fun i wr => ∃ k : Nat, k ≤ l.length ∧ i = .int .i64 k ∧ (∀ j, j < k → hasAt l n j = false) ∧ Below w.heap.size w wr) (fun i _ => l.length - (intOf i).toNat)
  case atStart => exact ⟨0, by omega, by go_num, fun j hj => by omega, Below.refl _ _⟩
  case round =>
    obtain ⟨k, hk, rfl, hok, hb⟩ := hrel
    have HOK := Lib.hid hok
    clear hok
    have hbz := hb.size
    by_cases hkk : k < l.length
    · obtain ⟨b, off, rfl, hSb, hcell⟩ := HE.out (by omega)
      have hbl := hS b hSb
      obtain ⟨c0, c1, i0, i1⟩ := hcell k hkk
      rw [← hb.cell (p := ⟨b, off + k * 2, none⟩) hbl] at c0
      rw [← hb.cell (p := ⟨b, off + k * 2 + 1, none⟩) hbl] at c1
      clear hcell HE
      have hA : hasAt l n k = (decide ((getR l k).Lo ≤ n) && decide (n ≤ (getR l k).Hi)) := rfl
      have hgd := HO.out k hkk
      unfold okAt goodR at hgd
      simp only [Bool.and_eq_true, decide_eq_true_eq] at hgd
      obtain ⟨⟨⟨g1, g2⟩, g3⟩, _⟩ := hgd
      have hU := upTo_calls (n - (getR l k).Lo) ((getR l k).Hi - (getR l k).Lo)
      generalize (getR l k).Lo = x at *
      generalize (getR l k).Hi = y at *
      by_cases h1 : x ≤ n ∧ n ≤ y
      · have HN : Hid (¬ hasNone l n) := by
          show ¬ hasNone l n
          intro hall
          have := hall k hkk
          rw [hA] at this
          simp [h1.1, h1.2] at this
        rw [show (decide (0 ≤ n - x) && decide (n - x ≤ y - x)) = true from by simp; omega] at hU
        have HU := Lib.hid hU
        clear hU hA h1
        go_wp2_with (go_at_call 56; refine (HU.out _).mono ?_; rintro e _ ⟨rfl, rfl⟩)
        all_goals
          go_ret
          refine ⟨?_, by go_grown⟩
          simp [HN.out]
      · have HN : Hid (hasAt l n k = false) := by show hasAt l n k = false; rw [hA]; simp; omega
        rw [show (decide (0 ≤ n - x) && decide (n - x ≤ y - x)) = false from by simp; omega] at hU
        have HU := Lib.hid hU
        clear hU hA h1
        go_wp2_with (go_at_call 56; refine (HU.out _).mono ?_; rintro e _ ⟨rfl, rfl⟩)
        refine ⟨⟨k + 1, by omega, by go_num, fun j hj => ?_, by go_grown⟩, by simp [intOf]; omega⟩
        by_cases hjk : j < k
        · exact HOK.out j hjk
        · rw [show j = k by omega]; exact HN.out
    · have hkl : k = l.length := by omega
      have HN : Hid (hasNone l n) := fun i hi => HOK.out i (by omega)
      go_wp2
      all_goals
        go_ret
        refine ⟨?_, hb⟩
        simp [HN.out]

theorem hasNone_neg {l : List DRange} {n : Int} (ho : rangesOk l) (hn : n < 0) : hasNone l n := by
  intro i hi
  have hgd := ho i hi
  unfold okAt goodR at hgd
  simp only [Bool.and_eq_true, decide_eq_true_eq] at hgd
  unfold hasAt
  simp
  omega

set_option maxRecDepth 100000 in
set_option maxHeartbeats 2000000 in
theorem rangeHas_calls (S : Foot) (v : Value) (l : List DRange) (n : Int) (w : World) (hS : ∀ b, S b → b < w.heap.size) (h : RRanges S w [v] l) (hn2 : n ≤ 9223372036854775807) :
    Calls Try.prog 33 #[v, .int .i64 n] w fun e w' => e = hasE l n ∧ Below w.heap.size w w' := by
  have hx := refFault_calls S v l w hS h
  obtain ⟨A, c, hv, _⟩ := h.at_
  injection hv with hv _
  subst hv
  by_cases ho : rangesOk l
  · rw [rangesFault_ok ho] at hx
    have HX := Lib.hid hx
    have HO := Lib.hid ho
    have HR := Lib.hid h
    by_cases hn : 0 ≤ n
    · have HI : Hid (∀ w', Below w.heap.size w w' → Calls Try.prog 60 #[.slice A l.length c, .int .i64 n] w' fun e w'' => e = .returned (.bool (!decide (hasNone l n))) ∧ Below w'.heap.size w' w'') := fun w' hb =>
        inside_calls S _ l n w' (fun b hb' => by have := hS b hb'; have := hb.size; omega) (RSlice.keeps RRange.keeps S S w w' _ l (fun _ h => h) (fun b hb' => hb.block b (hS b hb')) h) ho hn hn2
      clear hx ho h
      generalize hq : (!decide (hasNone l n)) = q at HI
      have HQ := Lib.hid hq
      clear hq
      go_enter Try.func33, Try.ntmps33
      go_wp2_with (first | (go_at_call 32; refine (HX.out).mono ?_; rintro e w1 ⟨rfl, hb1⟩; have hB1 := binto (by go_grown : Below w.heap.size w _) (by go_size) hb1; obtain ⟨hc1, hd1, hz1⟩ := bcell hb1; (try simp only [World.size_alloc, World.size_setCell, World.size_drew] at hz1); have hk1 := Lib.hid hb1.block; clear hc1 hd1 hb1) | (go_at_call 60; refine (HI.out _ hB1).mono ?_; rintro e w2 ⟨rfl, hb2⟩; have hB2 := binto (by go_grown : Below w.heap.size w _) (by go_size) hb2; obtain ⟨hc2, hd2, hz2⟩ := bcell hb2; (try simp only [World.size_alloc, World.size_setCell, World.size_drew] at hz2); have hk2 := Lib.hid hb2.block; clear hc2 hd2 hb2))
      all_goals
        ((try simp only [Exit.inBlock, Exit.then]); refine bodyPost_ret (by simp [results, Try.results33, go_sem]; try rfl) rfl ?_)
        refine ⟨?_, by go_grown⟩
        unfold hasE
        rw [if_pos HO.out, HQ.out]
    · have HN : Hid (hasNone l n) := hasNone_neg ho (by omega)
      clear hx ho h
      go_enter Try.func33, Try.ntmps33
      go_wp2_with (go_at_call 32; refine (HX.out).mono ?_; rintro e w1 ⟨rfl, hb1⟩; have hB1 := binto (by go_grown : Below w.heap.size w _) (by go_size) hb1; obtain ⟨hc1, hd1, hz1⟩ := bcell hb1; (try simp only [World.size_alloc, World.size_setCell, World.size_drew] at hz1); have hk1 := Lib.hid hb1.block; clear hc1 hd1 hb1)
      all_goals
        ((try simp only [Exit.inBlock, Exit.then]); refine bodyPost_ret (by simp [results, Try.results33, go_sem]; try rfl) rfl ?_)
        refine ⟨?_, by go_grown⟩
        unfold hasE
        rw [if_pos HO.out]
        simp [HN.out]
  · rw [rangesFault_bad ho] at hx
    have HX := Lib.hid hx
    have HO := Lib.hid ho
    clear hx ho h
    go_enter Try.func33, Try.ntmps33
    go_wp2_with (go_at_call 32; refine (HX.out).mono ?_; rintro e w1 ⟨rfl, hb1⟩; have hB1 := binto (by go_grown : Below w.heap.size w _) (by go_size) hb1; obtain ⟨hc1, hd1, hz1⟩ := bcell hb1; (try simp only [World.size_alloc, World.size_setCell, World.size_drew] at hz1); have hk1 := Lib.hid hb1.block; clear hc1 hd1 hb1)
    all_goals
      ((try simp only [Exit.inBlock, Exit.then]); refine bodyPost_ret (by simp [results, Try.results33, go_sem]; try rfl) rfl ?_)
      refine ⟨?_, by go_grown⟩
      unfold hasE
      rw [if_neg HO.out]
end Go.Proofs.Ytmfpfpllipogiaa
