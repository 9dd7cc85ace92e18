/-
  flow.Check, Spend, Grant and the reference's: what each answers. No condition.
-/
import Derived.Test.YtmfpfpllipogiaaTypes
set_option linter.unusedSimpArgs false
set_option linter.unusedVariables false
namespace Go.Proofs.Ytmfpfpllipogiaa
open Go.RowKit

/-- P9.1 -/
def flowOk (a b : Int) : Prop := 0 ≤ b ∧ b ≤ a ∧ a ≤ 4611686018427387903
instance (a b : Int) : Decidable (flowOk a b) := inferInstanceAs (Decidable (_ ∧ _ ∧ _))
def flowFault (a b : Int) : Int := if flowOk a b then 0 else 9
theorem flowFault_ok {a b : Int} (h : flowOk a b) : flowFault a b = 0 := if_pos h
theorem flowFault_bad {a b : Int} (h : ¬ flowOk a b) : flowFault a b = 9 := if_neg h

set_option maxHeartbeats 400000 in
theorem flowCheck_calls (a b : Int) (w : World) :
    Calls Try.prog 26 #[.agg #[.int .i64 a, .int .i64 b]] w fun e w' => e = .returned (.int .i64 (flowFault a b)) ∧ Below w.heap.size w w' := by
  go_enter Try.func26, Try.ntmps26
  go_wp2
  all_goals
    go_ret
    refine ⟨ret_int ?_, by go_grown⟩
    first | exact (flowFault_ok (by unfold flowOk; omega)).symm | exact (flowFault_bad (by unfold flowOk; omega)).symm

set_option maxHeartbeats 400000 in
theorem flowFault_calls (a b : Int) (w : World) :
    Calls Try.prog 28 #[.agg #[.int .i64 a, .int .i64 b]] w fun e w' => e = .returned (.int .i64 (flowFault a b)) ∧ Below w.heap.size w w' := by
  go_enter Try.func28, Try.ntmps28
  go_wp2_with (go_at_call 56; refine (upTo_calls _ _ _).mono ?_; rintro e _ ⟨rfl, rfl⟩)
  all_goals
    go_ret
    refine ⟨ret_int ?_, by go_grown⟩
    first | exact (flowFault_ok (by unfold flowOk; omega)).symm | exact (flowFault_bad (by unfold flowOk; omega)).symm

/-- P9.2 -/
def flowSpend (a b n : Int) : Ending :=
  let r (x y e : Int) : Ending := .returned (.tuple #[.agg #[.int .i64 x, .int .i64 y], .int .i64 e])
  if ¬ flowOk a b then r 0 0 9 else if n < 0 then r 0 0 6 else if a - b < n then r 0 0 11 else r a (b + n) 0
/-- P9.3 -/
def flowGrant (a b n : Int) : Ending :=
  let r (x y e : Int) : Ending := .returned (.tuple #[.agg #[.int .i64 x, .int .i64 y], .int .i64 e])
  if ¬ flowOk a b then r 0 0 9 else if n < 0 ∨ 4611686018427387903 < n then r 0 0 6 else r (max a n) b 0

set_option maxHeartbeats 1000000 in
theorem flowSpend_calls (a b n : Int) (w : World) :
    Calls Try.prog 27 #[.agg #[.int .i64 a, .int .i64 b], .int .i64 n] w fun e w' => e = flowSpend a b n ∧ Below w.heap.size w w' := by
  by_cases ho : flowOk a b
  · have hx := flowCheck_calls a b
    rw [flowFault_ok ho] at hx
    have HF := Lib.hid ho
    obtain ⟨h1, h2, h3⟩ := ho
    have HX := Lib.hid hx
    clear hx
    go_enter Try.func27, Try.ntmps27
    go_wp2_with (go_at_call 26; refine (HX.out _).mono ?_; rintro e w1 ⟨rfl, hb1⟩; have hB1 := binto (by go_grown : Below w.heap.size w _) (by go_size) hb1; obtain ⟨hc1, hd1, hz1⟩ := bcell hb1; (try simp only [World.size_alloc, World.size_setCell, World.size_drew] at hz1); have c1_0 := fun o => hc1 (w.heap.size) o (by go_size); have d1_0 := fun o => hd1 (w.heap.size) o (by go_size); have z1_0 : w.heap.size < w1.heap.size := (by omega); have c1_1 := fun o => hc1 (w.heap.size + 1) o (by go_size); have d1_1 := fun o => hd1 (w.heap.size + 1) o (by go_size); have z1_1 : w.heap.size + 1 < w1.heap.size := (by omega); clear hc1 hd1 hb1)
    all_goals
      ((try simp only [Exit.inBlock, Exit.then]); refine bodyPost_ret (by simp [results, Try.results27, go_sem, c1_1]; try rfl) rfl ?_)
      refine ⟨?_, by go_grown⟩
      unfold flowSpend
      rw [if_neg (fun h => h HF.out)]
      (try simp only [Bool.not_eq_true', Bool.not_eq_false', Bool.and_eq_true, Bool.or_eq_true, Bool.and_eq_false_iff, Bool.or_eq_false_iff, decide_eq_true_eq, decide_eq_false_iff_not, Int.not_le, Int.not_lt] at *)
      first
        | rw [if_pos (by omega)]; done
        | rw [if_neg (by omega), if_pos (by omega)]; done
        | rw [if_neg (by omega), if_neg (by omega)]; done
  · have hx := flowCheck_calls a b
    rw [flowFault_bad ho] at hx
    have HX := Lib.hid hx
    clear hx
    go_enter Try.func27, Try.ntmps27
    go_wp2_with (go_at_call 26; refine (HX.out _).mono ?_; rintro e w1 ⟨rfl, hb1⟩; have hB1 := binto (by go_grown : Below w.heap.size w _) (by go_size) hb1; obtain ⟨hc1, hd1, hz1⟩ := bcell hb1; (try simp only [World.size_alloc, World.size_setCell, World.size_drew] at hz1); have c1_0 := fun o => hc1 (w.heap.size) o (by go_size); have d1_0 := fun o => hd1 (w.heap.size) o (by go_size); have z1_0 : w.heap.size < w1.heap.size := (by omega); have c1_1 := fun o => hc1 (w.heap.size + 1) o (by go_size); have d1_1 := fun o => hd1 (w.heap.size + 1) o (by go_size); have z1_1 : w.heap.size + 1 < w1.heap.size := (by omega); clear hc1 hd1 hb1)
    all_goals
      ((try simp only [Exit.inBlock, Exit.then]); refine bodyPost_ret (by simp [results, Try.results27, go_sem, c1_1]; try rfl) rfl ?_)
      refine ⟨?_, by go_grown⟩
      unfold flowSpend
      rw [if_pos ho]

set_option maxHeartbeats 1000000 in
theorem flowGrant_calls (a b n : Int) (w : World) :
    Calls Try.prog 24 #[.agg #[.int .i64 a, .int .i64 b], .int .i64 n] w fun e w' => e = flowGrant a b n ∧ Below w.heap.size w w' := by
  have hx := flowCheck_calls a b
  by_cases ho : flowOk a b
  · rw [flowFault_ok ho] at hx
    have HF := Lib.hid ho
    obtain ⟨h1, h2, h3⟩ := ho
    have HX := Lib.hid hx
    clear hx
    go_enter Try.func24, Try.ntmps24
    go_wp2_with (first | (go_at_call 26; refine (HX.out _).mono ?_; rintro e w1 ⟨rfl, hb1⟩; have hB1 := binto (by go_grown : Below w.heap.size w _) (by go_size) hb1; obtain ⟨hc1, hd1, hz1⟩ := bcell hb1; (try simp only [World.size_alloc, World.size_setCell, World.size_drew] at hz1); have c1_0 := fun o => hc1 (w.heap.size) o (by go_size); have d1_0 := fun o => hd1 (w.heap.size) o (by go_size); have z1_0 : w.heap.size < w1.heap.size := (by omega); have c1_1 := fun o => hc1 (w.heap.size + 1) o (by go_size); have d1_1 := fun o => hd1 (w.heap.size + 1) o (by go_size); have z1_1 : w.heap.size + 1 < w1.heap.size := (by omega); clear hc1 hd1 hb1) | (go_at_call 56; refine (upTo_calls _ _ _).mono ?_; rintro e _ ⟨rfl, rfl⟩))
    all_goals
      ((try simp only [Exit.inBlock, Exit.then]); refine bodyPost_ret (by simp [results, Try.results24, go_sem, c1_1]; try rfl) rfl ?_)
      refine ⟨?_, by go_grown⟩
      unfold flowGrant
      rw [if_neg (fun h => h HF.out)]
      (try simp only [Bool.not_eq_true', Bool.not_eq_false', Bool.and_eq_true, Bool.or_eq_true, Bool.and_eq_false_iff, Bool.or_eq_false_iff, decide_eq_true_eq, decide_eq_false_iff_not, Int.not_le, Int.not_lt] at *)
      first
        | rw [if_pos (by omega)]; done
        | (rw [if_neg (by omega), show max a n = a from by omega]; done)
        | (rw [if_neg (by omega), show max a n = n from by omega]; done)
  · rw [flowFault_bad ho] at hx
    have HX := Lib.hid hx
    clear hx
    go_enter Try.func24, Try.ntmps24
    go_wp2_with (go_at_call 26; refine (HX.out _).mono ?_; rintro e w1 ⟨rfl, hb1⟩; have hB1 := binto (by go_grown : Below w.heap.size w _) (by go_size) hb1; obtain ⟨hc1, hd1, hz1⟩ := bcell hb1; (try simp only [World.size_alloc, World.size_setCell, World.size_drew] at hz1); have c1_0 := fun o => hc1 (w.heap.size) o (by go_size); have d1_0 := fun o => hd1 (w.heap.size) o (by go_size); have z1_0 : w.heap.size < w1.heap.size := (by omega); have c1_1 := fun o => hc1 (w.heap.size + 1) o (by go_size); have d1_1 := fun o => hd1 (w.heap.size + 1) o (by go_size); have z1_1 : w.heap.size + 1 < w1.heap.size := (by omega); clear hc1 hd1 hb1)
    all_goals
      ((try simp only [Exit.inBlock, Exit.then]); refine bodyPost_ret (by simp [results, Try.results24, go_sem, c1_1]; try rfl) rfl ?_)
      refine ⟨?_, by go_grown⟩
      unfold flowGrant
      rw [if_pos ho]

set_option maxHeartbeats 1000000 in
theorem flowSpent_calls (a b n : Int) (w : World) :
    Calls Try.prog 29 #[.agg #[.int .i64 a, .int .i64 b], .int .i64 n] w fun e w' => e = flowSpend a b n ∧ Below w.heap.size w w' := by
  have hx := flowFault_calls a b
  by_cases ho : flowOk a b
  · rw [flowFault_ok ho] at hx
    have HF := Lib.hid ho
    obtain ⟨h1, h2, h3⟩ := ho
    have HX := Lib.hid hx
    clear hx
    go_enter Try.func29, Try.ntmps29
    go_wp2_with (first | (go_at_call 28; refine (HX.out _).mono ?_; rintro e w1 ⟨rfl, hb1⟩; have hB1 := binto (by go_grown : Below w.heap.size w _) (by go_size) hb1; obtain ⟨hc1, hd1, hz1⟩ := bcell hb1; (try simp only [World.size_alloc, World.size_setCell, World.size_drew] at hz1); have c1_0 := fun o => hc1 (w.heap.size) o (by go_size); have d1_0 := fun o => hd1 (w.heap.size) o (by go_size); have z1_0 : w.heap.size < w1.heap.size := (by omega); have c1_1 := fun o => hc1 (w.heap.size + 1) o (by go_size); have d1_1 := fun o => hd1 (w.heap.size + 1) o (by go_size); have z1_1 : w.heap.size + 1 < w1.heap.size := (by omega); clear hc1 hd1 hb1) | (go_at_call 56; refine (upTo_calls _ _ _).mono ?_; rintro e _ ⟨rfl, rfl⟩))
    all_goals
      ((try simp only [Exit.inBlock, Exit.then]); refine bodyPost_ret (by simp [results, Try.results29, go_sem, c1_1]; try rfl) rfl ?_)
      refine ⟨?_, by go_grown⟩
      unfold flowSpend
      rw [if_neg (fun h => h HF.out)]
      (try simp only [Bool.not_eq_true', Bool.not_eq_false', Bool.and_eq_true, Bool.or_eq_true, Bool.and_eq_false_iff, Bool.or_eq_false_iff, decide_eq_true_eq, decide_eq_false_iff_not, Int.not_le, Int.not_lt] at *)
      first
        | rw [if_pos (by omega)]; done
        | rw [if_neg (by omega), if_pos (by omega)]; done
        | rw [if_neg (by omega), if_neg (by omega)]
  · rw [flowFault_bad ho] at hx
    have HX := Lib.hid hx
    clear hx
    go_enter Try.func29, Try.ntmps29
    go_wp2_with (go_at_call 28; refine (HX.out _).mono ?_; rintro e w1 ⟨rfl, hb1⟩; have hB1 := binto (by go_grown : Below w.heap.size w _) (by go_size) hb1; obtain ⟨hc1, hd1, hz1⟩ := bcell hb1; (try simp only [World.size_alloc, World.size_setCell, World.size_drew] at hz1); have c1_0 := fun o => hc1 (w.heap.size) o (by go_size); have d1_0 := fun o => hd1 (w.heap.size) o (by go_size); have z1_0 : w.heap.size < w1.heap.size := (by omega); have c1_1 := fun o => hc1 (w.heap.size + 1) o (by go_size); have d1_1 := fun o => hd1 (w.heap.size + 1) o (by go_size); have z1_1 : w.heap.size + 1 < w1.heap.size := (by omega); clear hc1 hd1 hb1)
    all_goals
      ((try simp only [Exit.inBlock, Exit.then]); refine bodyPost_ret (by simp [results, Try.results29, go_sem, c1_1]; try rfl) rfl ?_)
      refine ⟨?_, by go_grown⟩
      unfold flowSpend
      rw [if_pos ho]

set_option maxHeartbeats 1000000 in
theorem flowGranted_calls (a b n : Int) (w : World) :
    Calls Try.prog 25 #[.agg #[.int .i64 a, .int .i64 b], .int .i64 n] w fun e w' => e = flowGrant a b n ∧ Below w.heap.size w w' := by
  have hx := flowFault_calls a b
  by_cases ho : flowOk a b
  · rw [flowFault_ok ho] at hx
    have HF := Lib.hid ho
    obtain ⟨h1, h2, h3⟩ := ho
    have HX := Lib.hid hx
    clear hx
    go_enter Try.func25, Try.ntmps25
    go_wp2_with (first | (go_at_call 28; refine (HX.out _).mono ?_; rintro e w1 ⟨rfl, hb1⟩; have hB1 := binto (by go_grown : Below w.heap.size w _) (by go_size) hb1; obtain ⟨hc1, hd1, hz1⟩ := bcell hb1; (try simp only [World.size_alloc, World.size_setCell, World.size_drew] at hz1); have c1_0 := fun o => hc1 (w.heap.size) o (by go_size); have d1_0 := fun o => hd1 (w.heap.size) o (by go_size); have z1_0 : w.heap.size < w1.heap.size := (by omega); have c1_1 := fun o => hc1 (w.heap.size + 1) o (by go_size); have d1_1 := fun o => hd1 (w.heap.size + 1) o (by go_size); have z1_1 : w.heap.size + 1 < w1.heap.size := (by omega); clear hc1 hd1 hb1) | (go_at_call 56; refine (upTo_calls _ _ _).mono ?_; rintro e _ ⟨rfl, rfl⟩))
    all_goals
      ((try simp only [Exit.inBlock, Exit.then]); refine bodyPost_ret (by simp [results, Try.results25, go_sem, c1_1]; try rfl) rfl ?_)
      refine ⟨?_, by go_grown⟩
      unfold flowGrant
      rw [if_neg (fun h => h HF.out)]
      (try simp only [Bool.not_eq_true', Bool.not_eq_false', Bool.and_eq_true, Bool.or_eq_true, Bool.and_eq_false_iff, Bool.or_eq_false_iff, decide_eq_true_eq, decide_eq_false_iff_not, Int.not_le, Int.not_lt] at *)
      first
        | rw [if_pos (by omega)]; done
        | (rw [if_neg (by omega), show max a n = a from by omega]; done)
        | (rw [if_neg (by omega), show max a n = n from by omega]; done)
  · rw [flowFault_bad ho] at hx
    have HX := Lib.hid hx
    clear hx
    go_enter Try.func25, Try.ntmps25
    go_wp2_with (go_at_call 28; refine (HX.out _).mono ?_; rintro e w1 ⟨rfl, hb1⟩; have hB1 := binto (by go_grown : Below w.heap.size w _) (by go_size) hb1; obtain ⟨hc1, hd1, hz1⟩ := bcell hb1; (try simp only [World.size_alloc, World.size_setCell, World.size_drew] at hz1); have c1_0 := fun o => hc1 (w.heap.size) o (by go_size); have d1_0 := fun o => hd1 (w.heap.size) o (by go_size); have z1_0 : w.heap.size < w1.heap.size := (by omega); have c1_1 := fun o => hc1 (w.heap.size + 1) o (by go_size); have d1_1 := fun o => hd1 (w.heap.size + 1) o (by go_size); have z1_1 : w.heap.size + 1 < w1.heap.size := (by omega); clear hc1 hd1 hb1)
    all_goals
      ((try simp only [Exit.inBlock, Exit.then]); refine bodyPost_ret (by simp [results, Try.results25, go_sem, c1_1]; try rfl) rfl ?_)
      refine ⟨?_, by go_grown⟩
      unfold flowGrant
      rw [if_pos ho]
end Go.Proofs.Ytmfpfpllipogiaa
