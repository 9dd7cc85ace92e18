/-
  pace.Heard and the reference's PaceHeard. No condition.
-/
import Derived.Test.YthgmpeilolephaaPace
import Derived.Test.YthgmpeilolephaaOwn
set_option linter.unusedSimpArgs false
set_option linter.unusedVariables false
namespace Go.Proofs.Ythgmpeilolephaa
open Go.RowKit

theorem rints_two {W : World} {blk : Nat} {n s : Int} (hn : I64 n) (hs : I64 s) (h0 : W.cell? ⟨blk, 0, none⟩ = some (.int .i64 n)) (h1 : W.cell? ⟨blk, 1, none⟩ = some (.int .i64 s)) (S : Foot) (hS : S blk) : RInts S W [.slice (some ⟨blk, 0, none⟩) 2 2] [n, s] := by
  refine ⟨some ⟨blk, 0, none⟩, 2, rfl, Nat.le_refl _, by unfold maxLen; omega, by simp, fun i hi => ?_⟩
  have hi2 : i = 0 ∨ i = 1 := by simp at hi; omega
  rcases hi2 with rfl | rfl
  · refine ⟨blk, 0, [.int .i64 n], rfl, hS, rfl, fun j hj => ?_, rfl, hn⟩
    have hj0 : j = 0 := by omega
    subst hj0
    exact h0
  · refine ⟨blk, 0, [.int .i64 s], rfl, hS, rfl, fun j hj => ?_, rfl, hs⟩
    have hj0 : j = 0 := by omega
    subst hj0
    exact h1
theorem timesFlt_all (l : List Int) : timesFlt l = if l.all timeOk = true then 0 else 6 := by
  have e : timesOk l ↔ l.all timeOk = true := by
    rw [List.all_eq_true]
    constructor
    · intro h x hx
      obtain ⟨i, hi, rfl⟩ := List.getElem_of_mem hx
      have := h i hi
      unfold getI at this
      rwa [List.getD_eq_getElem?_getD, List.getElem?_eq_getElem hi, Option.getD_some] at this
    · intro h i hi
      unfold getI
      rw [List.getD_eq_getElem?_getD, List.getElem?_eq_getElem hi, Option.getD_some]
      exact h _ (List.getElem_mem hi)
  by_cases h : timesOk l
  · rw [timesFlt_ok h, if_pos (e.1 h)]
  · rw [timesFlt_bad h, if_neg (fun x => h (e.2 x))]
def paceFlt2 (a b c d n s : Int) : Int := if paceOk a b c d then (if timeOk n = true ∧ timeOk s = true then 0 else 6) else 9
theorem paceFltL_two (a b c d n s : Int) : paceFltL a b c d [n, s] = paceFlt2 a b c d n s := by
  unfold paceFltL paceFlt2
  rw [timesFlt_all]
  simp only [List.all_cons, List.all_nil, Bool.and_true, Bool.and_eq_true]
theorem timeOk_iff (n : Int) : timeOk n = true ↔ 0 ≤ n ∧ n ≤ 1099511627776 := by unfold timeOk; simp only [Bool.and_eq_true, decide_eq_true_eq]
theorem paceFlt2_zero {a b c d n s : Int} (h : paceFlt2 a b c d n s = 0) : paceOk a b c d ∧ (0 ≤ n ∧ n ≤ 1099511627776) ∧ (0 ≤ s ∧ s ≤ 1099511627776) := by
  unfold paceFlt2 at h
  split at h
  · split at h
    · rename_i h1 h2
      rw [timeOk_iff, timeOk_iff] at h2
      exact ⟨h1, h2⟩
    · omega
  · omega
theorem pfault2_calls (a b c d n s : Int) (hn : I64 n) (hs : I64 s) (blk : Nat) (W : World) (h0 : W.cell? ⟨blk, 0, none⟩ = some (.int .i64 n)) (h1 : W.cell? ⟨blk, 1, none⟩ = some (.int .i64 s)) (hb : blk < W.heap.size) :
    Calls Try.prog 60 #[.agg #[.int .i64 a, .int .i64 b, .int .i64 c, .int .i64 d], .slice (some ⟨blk, 0, none⟩) 2 2] W fun e w' => e = .returned (.int .i64 (paceFlt2 a b c d n s)) ∧ Below W.heap.size W w' := by
  rw [← paceFltL_two]
  exact pfault_calls (fun b => b = blk) _ _ a b c d W (fun b h => by rw [h]; exact hb) (rints_two hn hs h0 h1 _ rfl)
theorem pfaultRef2_calls (a b c d n s : Int) (hn : I64 n) (hs : I64 s) (hd : I64 d) (blk : Nat) (W : World) (h0 : W.cell? ⟨blk, 0, none⟩ = some (.int .i64 n)) (h1 : W.cell? ⟨blk, 1, none⟩ = some (.int .i64 s)) (hb : blk < W.heap.size) :
    Calls Try.prog 61 #[.agg #[.int .i64 a, .int .i64 b, .int .i64 c, .int .i64 d], .slice (some ⟨blk, 0, none⟩) 2 2] W fun e w' => e = .returned (.int .i64 (paceFlt2 a b c d n s)) ∧ Below W.heap.size W w' := by
  rw [← paceFltL_two]
  exact pfaultRef_calls (fun b => b = blk) _ _ a b c d hd W (fun b h => by rw [h]; exact hb) (rints_two hn hs h0 h1 _ rfl)

def heardQ (a b n : Int) : Int := if b = 0 ∨ a < b then n else 100 * n / a
/-- P12.4 -/
def paceHear (a b c d n s : Int) : Ending :=
  let r (x y z t : Int) (e : Int) : Ending := .returned (.tuple #[.agg #[.int .i64 x, .int .i64 y, .int .i64 z, .int .i64 t], .int .i64 e])
  if paceFlt2 a b c d n s = 0 then (if c < n then r 0 0 0 0 13 else if s ≤ d then r a b (c - n) d 0 else r (min (a + heardQ a b n) 1099511627776) b (c - n) d 0) else r 0 0 0 0 (paceFlt2 a b c d n s)

set_option maxRecDepth 100000 in
set_option maxHeartbeats 2000000 in
theorem paceHeard_calls (a b c d n s : Int) (hn : I64 n) (hs : I64 s) (w : World) :
    Calls Try.prog 32 #[.agg #[.int .i64 a, .int .i64 b, .int .i64 c, .int .i64 d], .int .i64 n, .int .i64 s] w fun e w' => e = paceHear a b c d n s ∧ Below w.heap.size w w' := by
  have hx := pfault2_calls a b c d n s hn hs
  by_cases ho : paceFlt2 a b c d n s = 0
  · obtain ⟨⟨g1, g2, g3, g4, g5, g6, g7, g8⟩, ⟨g9, g10⟩, ⟨g11, g12⟩⟩ := paceFlt2_zero ho
    rw [ho] at hx
    have HX := Lib.hid hx
    have HO := Lib.hid ho
    clear hx ho
    by_cases hc : c < n
    · go_enter Try.func32, Try.ntmps32
      go_wp2_with (go_at_call 60; refine (HX.out _ _ (by first | (simp; done) | (go_simp; done)) (by first | (simp; done) | (go_simp; done)) (by go_size)).mono ?_; rintro e w1 ⟨rfl, hb1⟩; have hB1 := binto (by go_grown : Below w.heap.size w _) (by go_size) hb1; obtain ⟨hc1, hd1, hz1⟩ := bcell hb1; (try simp only [World.size_alloc, World.size_setCell, World.size_drew] at hz1); have c1_0 := fun o => hc1 (w.heap.size) o (by go_size); have d1_0 := fun o => hd1 (w.heap.size) o (by go_size); have z1_0 : w.heap.size < w1.heap.size := (by omega); have c1_1 := fun o => hc1 (w.heap.size + 1) o (by go_size); have d1_1 := fun o => hd1 (w.heap.size + 1) o (by go_size); have z1_1 : w.heap.size + 1 < w1.heap.size := (by omega); have hk1 := Lib.hid hb1.block; clear hc1 hd1 hb1)
      all_goals
        ((try simp only [Exit.inBlock, Exit.then]); refine bodyPost_ret (by simp [results, Try.results32, go_sem, c1_0, c1_1]; try rfl) rfl ?_)
        refine ⟨?_, by go_grown⟩
        unfold paceHear
        rw [if_pos HO.out, if_pos hc]
    · by_cases hsd : s ≤ d
      · go_enter Try.func32, Try.ntmps32
        go_wp2_with ((go_at_call 60; refine (HX.out _ _ (by first | (simp; done) | (go_simp; done)) (by first | (simp; done) | (go_simp; done)) (by go_size)).mono ?_; rintro e w1 ⟨rfl, hb1⟩; have hB1 := binto (by go_grown : Below w.heap.size w _) (by go_size) hb1; obtain ⟨hc1, hd1, hz1⟩ := bcell hb1; (try simp only [World.size_alloc, World.size_setCell, World.size_drew] at hz1); have c1_0 := fun o => hc1 (w.heap.size) o (by go_size); have d1_0 := fun o => hd1 (w.heap.size) o (by go_size); have z1_0 : w.heap.size < w1.heap.size := (by omega); have c1_1 := fun o => hc1 (w.heap.size + 1) o (by go_size); have d1_1 := fun o => hd1 (w.heap.size + 1) o (by go_size); have z1_1 : w.heap.size + 1 < w1.heap.size := (by omega); have hk1 := Lib.hid hb1.block; clear hc1 hd1 hb1); have f0 : w1.cell? ⟨w.heap.size, 0, none⟩ = some (.int .i64 a) := (by rw [c1_0]; first | (simp; done) | (go_simp; done)); have f1 : w1.cell? ⟨w.heap.size, 1, none⟩ = some (.int .i64 b) := (by rw [c1_0]; first | (simp; done) | (go_simp; done)); have f2 : w1.cell? ⟨w.heap.size, 2, none⟩ = some (.int .i64 c) := (by rw [c1_0]; first | (simp; done) | (go_simp; done)); have f3 : w1.cell? ⟨w.heap.size, 3, none⟩ = some (.int .i64 d) := (by rw [c1_0]; first | (simp; done) | (go_simp; done)); clear c1_0)
        all_goals
          ((try simp only [Exit.inBlock, Exit.then]); refine bodyPost_ret (by simp [results, Try.results32, go_sem, c1_1]; try rfl) rfl ?_)
          refine ⟨?_, by go_grown⟩
          unfold paceHear
          rw [if_pos HO.out, if_neg (by omega), if_pos hsd]
      · have HC : Hid (¬ c < n) := hc
        have HSD : Hid (¬ s ≤ d) := hsd
        by_cases hb0 : b = 0
        · have HQ := Lib.hid (show heardQ a b n = n from if_pos (Or.inl hb0))
          have hbt : (b == 0) = true := by simp [hb0]
          clear hb0
          go_enter Try.func32, Try.ntmps32
          go_wp2_with ((go_at_call 60; refine (HX.out _ _ (by first | (simp; done) | (go_simp; done)) (by first | (simp; done) | (go_simp; done)) (by go_size)).mono ?_; rintro e w1 ⟨rfl, hb1⟩; have hB1 := binto (by go_grown : Below w.heap.size w _) (by go_size) hb1; obtain ⟨hc1, hd1, hz1⟩ := bcell hb1; (try simp only [World.size_alloc, World.size_setCell, World.size_drew] at hz1); have c1_0 := fun o => hc1 (w.heap.size + 1) o (by go_size); have d1_0 := fun o => hd1 (w.heap.size + 1) o (by go_size); have z1_0 : w.heap.size + 1 < w1.heap.size := (by omega); have hk1 := Lib.hid hb1.block; clear hc1 hd1 hb1); obtain ⟨PW, hPW, p0, p1, p2, p3, q0, q1, q2, q3, pf, HPB, HPO⟩ := own4 (g := w.heap.size) (t := 38) (a := .int .i64 a) (b := .int .i64 b) (c := .int .i64 c) (d := .int .i64 d) (by rw [hk1.out _ (by go_size), heap_alloc_lt _ (by go_size), heap_alloc_lt _ (by go_size)]; exact heap_alloc_new _ _) hB1 (Nat.le_refl _); have r0 : ∀ x y z u, (PW x y z u).cell? ⟨w.heap.size + 1, 0, none⟩ = some (.int .i64 0) := (fun x y z u => by rw [(HPO.out x y z u _ 0 (by omega)).1, c1_0]; first | (simp; done) | (go_simp; done)); have r1 : ∀ x y z u, (PW x y z u).cell? ⟨w.heap.size + 1, 1, none⟩ = some (.int .i64 0) := (fun x y z u => by rw [(HPO.out x y z u _ 1 (by omega)).1, c1_0]; first | (simp; done) | (go_simp; done)); have r2 : ∀ x y z u, (PW x y z u).cell? ⟨w.heap.size + 1, 2, none⟩ = some (.int .i64 0) := (fun x y z u => by rw [(HPO.out x y z u _ 2 (by omega)).1, c1_0]; first | (simp; done) | (go_simp; done)); have r3 : ∀ x y z u, (PW x y z u).cell? ⟨w.heap.size + 1, 3, none⟩ = some (.int .i64 0) := (fun x y z u => by rw [(HPO.out x y z u _ 3 (by omega)).1, c1_0]; first | (simp; done) | (go_simp; done)); have rf : ∀ x y z u o, (PW x y z u).frozen? ⟨w.heap.size + 1, o, none⟩ = false := (fun x y z u o => by rw [(HPO.out x y z u _ o (by omega)).2, d1_0]; first | (simp; done) | (go_simp; done)); subst hPW; clear hk1 c1_0 d1_0)
          all_goals
            ((try simp only [Exit.inBlock, Exit.then]); refine bodyPost_ret (by simp [results, Try.results32, go_sem, r0, r1, r2, r3]; try rfl) rfl ?_)
            refine ⟨?_, by first | (go_grown; done) | (go_grown; exact HPB.out _ _ _ _)⟩
            unfold paceHear
            rw [if_pos HO.out, if_neg (by omega), if_neg (by omega), HQ.out]
            (try simp only [Bool.not_eq_true', Bool.not_eq_false', Bool.and_eq_true, Bool.or_eq_true, Bool.and_eq_false_iff, Bool.or_eq_false_iff, decide_eq_true_eq, decide_eq_false_iff_not, Int.not_le, Int.not_lt] at *)
            first
              | (rw [show min (a + n) 1099511627776 = a + n from by omega]; done)
              | (rw [show min (a + n) 1099511627776 = 1099511627776 from by omega]; done)
        · have hbf : (b == 0) = false := by simp [hb0]
          by_cases hab : a < b
          · have HQ := Lib.hid (show heardQ a b n = n from if_pos (Or.inr hab))
            clear hb0
            go_enter Try.func32, Try.ntmps32
            go_wp2_with ((go_at_call 60; refine (HX.out _ _ (by first | (simp; done) | (go_simp; done)) (by first | (simp; done) | (go_simp; done)) (by go_size)).mono ?_; rintro e w1 ⟨rfl, hb1⟩; have hB1 := binto (by go_grown : Below w.heap.size w _) (by go_size) hb1; obtain ⟨hc1, hd1, hz1⟩ := bcell hb1; (try simp only [World.size_alloc, World.size_setCell, World.size_drew] at hz1); have c1_0 := fun o => hc1 (w.heap.size + 1) o (by go_size); have d1_0 := fun o => hd1 (w.heap.size + 1) o (by go_size); have z1_0 : w.heap.size + 1 < w1.heap.size := (by omega); have hk1 := Lib.hid hb1.block; clear hc1 hd1 hb1); obtain ⟨PW, hPW, p0, p1, p2, p3, q0, q1, q2, q3, pf, HPB, HPO⟩ := own4 (g := w.heap.size) (t := 38) (a := .int .i64 a) (b := .int .i64 b) (c := .int .i64 c) (d := .int .i64 d) (by rw [hk1.out _ (by go_size), heap_alloc_lt _ (by go_size), heap_alloc_lt _ (by go_size)]; exact heap_alloc_new _ _) hB1 (Nat.le_refl _); have r0 : ∀ x y z u, (PW x y z u).cell? ⟨w.heap.size + 1, 0, none⟩ = some (.int .i64 0) := (fun x y z u => by rw [(HPO.out x y z u _ 0 (by omega)).1, c1_0]; first | (simp; done) | (go_simp; done)); have r1 : ∀ x y z u, (PW x y z u).cell? ⟨w.heap.size + 1, 1, none⟩ = some (.int .i64 0) := (fun x y z u => by rw [(HPO.out x y z u _ 1 (by omega)).1, c1_0]; first | (simp; done) | (go_simp; done)); have r2 : ∀ x y z u, (PW x y z u).cell? ⟨w.heap.size + 1, 2, none⟩ = some (.int .i64 0) := (fun x y z u => by rw [(HPO.out x y z u _ 2 (by omega)).1, c1_0]; first | (simp; done) | (go_simp; done)); have r3 : ∀ x y z u, (PW x y z u).cell? ⟨w.heap.size + 1, 3, none⟩ = some (.int .i64 0) := (fun x y z u => by rw [(HPO.out x y z u _ 3 (by omega)).1, c1_0]; first | (simp; done) | (go_simp; done)); have rf : ∀ x y z u o, (PW x y z u).frozen? ⟨w.heap.size + 1, o, none⟩ = false := (fun x y z u o => by rw [(HPO.out x y z u _ o (by omega)).2, d1_0]; first | (simp; done) | (go_simp; done)); subst hPW; clear hk1 c1_0 d1_0)
            all_goals
              ((try simp only [Exit.inBlock, Exit.then]); refine bodyPost_ret (by simp [results, Try.results32, go_sem, r0, r1, r2, r3]; try rfl) rfl ?_)
              refine ⟨?_, by first | (go_grown; done) | (go_grown; exact HPB.out _ _ _ _)⟩
              unfold paceHear
              rw [if_pos HO.out, if_neg (by omega), if_neg (by omega), HQ.out]
              (try simp only [Bool.not_eq_true', Bool.not_eq_false', Bool.and_eq_true, Bool.or_eq_true, Bool.and_eq_false_iff, Bool.or_eq_false_iff, decide_eq_true_eq, decide_eq_false_iff_not, Int.not_le, Int.not_lt] at *)
              first
                | (rw [show min (a + n) 1099511627776 = a + n from by omega]; done)
                | (rw [show min (a + n) 1099511627776 = 1099511627776 from by omega]; done)
          · have HQ := Lib.hid (show heardQ a b n = 100 * n / a from if_neg (by omega))
            have ha0 : (a == 0) = false := by simp; omega
            have hq1 : 0 ≤ 100 * n / a := Int.ediv_nonneg (by omega) (by omega)
            have hq2 : 100 * n / a ≤ 100 * n := Int.ediv_le_self _ (by omega)
            have ha1 : ¬ a = 0 := by omega
            clear hb0
            go_enter Try.func32, Try.ntmps32
            go_wp2_with ((go_at_call 60; refine (HX.out _ _ (by first | (simp; done) | (go_simp; done)) (by first | (simp; done) | (go_simp; done)) (by go_size)).mono ?_; rintro e w1 ⟨rfl, hb1⟩; have hB1 := binto (by go_grown : Below w.heap.size w _) (by go_size) hb1; obtain ⟨hc1, hd1, hz1⟩ := bcell hb1; (try simp only [World.size_alloc, World.size_setCell, World.size_drew] at hz1); have c1_0 := fun o => hc1 (w.heap.size + 1) o (by go_size); have d1_0 := fun o => hd1 (w.heap.size + 1) o (by go_size); have z1_0 : w.heap.size + 1 < w1.heap.size := (by omega); have hk1 := Lib.hid hb1.block; clear hc1 hd1 hb1); obtain ⟨PW, hPW, p0, p1, p2, p3, q0, q1, q2, q3, pf, HPB, HPO⟩ := own4 (g := w.heap.size) (t := 38) (a := .int .i64 a) (b := .int .i64 b) (c := .int .i64 c) (d := .int .i64 d) (by rw [hk1.out _ (by go_size), heap_alloc_lt _ (by go_size), heap_alloc_lt _ (by go_size)]; exact heap_alloc_new _ _) hB1 (Nat.le_refl _); have r0 : ∀ x y z u, (PW x y z u).cell? ⟨w.heap.size + 1, 0, none⟩ = some (.int .i64 0) := (fun x y z u => by rw [(HPO.out x y z u _ 0 (by omega)).1, c1_0]; first | (simp; done) | (go_simp; done)); have r1 : ∀ x y z u, (PW x y z u).cell? ⟨w.heap.size + 1, 1, none⟩ = some (.int .i64 0) := (fun x y z u => by rw [(HPO.out x y z u _ 1 (by omega)).1, c1_0]; first | (simp; done) | (go_simp; done)); have r2 : ∀ x y z u, (PW x y z u).cell? ⟨w.heap.size + 1, 2, none⟩ = some (.int .i64 0) := (fun x y z u => by rw [(HPO.out x y z u _ 2 (by omega)).1, c1_0]; first | (simp; done) | (go_simp; done)); have r3 : ∀ x y z u, (PW x y z u).cell? ⟨w.heap.size + 1, 3, none⟩ = some (.int .i64 0) := (fun x y z u => by rw [(HPO.out x y z u _ 3 (by omega)).1, c1_0]; first | (simp; done) | (go_simp; done)); have rf : ∀ x y z u o, (PW x y z u).frozen? ⟨w.heap.size + 1, o, none⟩ = false := (fun x y z u o => by rw [(HPO.out x y z u _ o (by omega)).2, d1_0]; first | (simp; done) | (go_simp; done)); subst hPW; clear hk1 c1_0 d1_0)
            go_region
            have s0 : ∀ x y z u v, ((PW x y z u).drew).setCell ⟨w.heap.size, 0, none⟩ v = (PW v y z u).drew := fun x y z u v => by rw [← p0 x y z u v]; rfl
            go_wp2
            all_goals
              ((try simp only [Exit.inBlock, Exit.then]); refine bodyPost_ret (by simp [results, Try.results32, go_sem, r0, r1, r2, r3]; try rfl) rfl ?_)
              refine ⟨?_, by first | (go_grown; done) | (go_grown; exact HPB.out _ _ _ _)⟩
              unfold paceHear
              rw [if_pos HO.out, if_neg (by omega), if_neg (by omega), HQ.out]
              (try simp only [Bool.not_eq_true', Bool.not_eq_false', Bool.and_eq_true, Bool.or_eq_true, Bool.and_eq_false_iff, Bool.or_eq_false_iff, decide_eq_true_eq, decide_eq_false_iff_not, Int.not_le, Int.not_lt] at *)
              first
                | (rw [show min (a + 100 * n / a) 1099511627776 = a + 100 * n / a from by omega]; done)
                | (rw [show min (a + 100 * n / a) 1099511627776 = 1099511627776 from by omega]; done)
  · have HO := Lib.hid ho
    have HE := Lib.hid (show paceHear a b c d n s = _ from if_neg ho)
    generalize paceFlt2 a b c d n s = z at *
    have hz : (z == 0) = false := by simpa using ho
    have HX := Lib.hid hx
    clear hx ho
    go_enter Try.func32, Try.ntmps32
    go_wp2_with (go_at_call 60; refine (HX.out _ _ (by first | (simp; done) | (go_simp; done)) (by first | (simp; done) | (go_simp; done)) (by go_size)).mono ?_; rintro e w1 ⟨rfl, hb1⟩; have hB1 := binto (by go_grown : Below w.heap.size w _) (by go_size) hb1; obtain ⟨hc1, hd1, hz1⟩ := bcell hb1; (try simp only [World.size_alloc, World.size_setCell, World.size_drew] at hz1); have c1_0 := fun o => hc1 (w.heap.size) o (by go_size); have d1_0 := fun o => hd1 (w.heap.size) o (by go_size); have z1_0 : w.heap.size < w1.heap.size := (by omega); have c1_1 := fun o => hc1 (w.heap.size + 1) o (by go_size); have d1_1 := fun o => hd1 (w.heap.size + 1) o (by go_size); have z1_1 : w.heap.size + 1 < w1.heap.size := (by omega); have hk1 := Lib.hid hb1.block; clear hc1 hd1 hb1)
    all_goals
      ((try simp only [Exit.inBlock, Exit.then]); refine bodyPost_ret (by simp [results, Try.results32, go_sem, c1_0, c1_1]; try rfl) rfl ?_)
      refine ⟨?_, by go_grown⟩
      rw [HE.out]
set_option maxRecDepth 100000 in
set_option maxHeartbeats 2000000 in
theorem paceHeardRef_calls (a b c d n s : Int) (hn : I64 n) (hs : I64 s) (hd : I64 d) (w : World) :
    Calls Try.prog 33 #[.agg #[.int .i64 a, .int .i64 b, .int .i64 c, .int .i64 d], .int .i64 n, .int .i64 s] w fun e w' => e = paceHear a b c d n s ∧ Below w.heap.size w w' := by
  have hx := pfaultRef2_calls a b c d n s hn hs hd
  by_cases ho : paceFlt2 a b c d n s = 0
  · obtain ⟨⟨g1, g2, g3, g4, g5, g6, g7, g8⟩, ⟨g9, g10⟩, ⟨g11, g12⟩⟩ := paceFlt2_zero ho
    rw [ho] at hx
    have HX := Lib.hid hx
    have HO := Lib.hid ho
    clear hx ho
    by_cases hc : c < n
    · go_enter Try.func33, Try.ntmps33
      go_wp2_with (go_at_call 61; refine (HX.out _ _ (by first | (simp; done) | (go_simp; done)) (by first | (simp; done) | (go_simp; done)) (by go_size)).mono ?_; rintro e w1 ⟨rfl, hb1⟩; have hB1 := binto (by go_grown : Below w.heap.size w _) (by go_size) hb1; obtain ⟨hc1, hd1, hz1⟩ := bcell hb1; (try simp only [World.size_alloc, World.size_setCell, World.size_drew] at hz1); have c1_0 := fun o => hc1 (w.heap.size) o (by go_size); have d1_0 := fun o => hd1 (w.heap.size) o (by go_size); have z1_0 : w.heap.size < w1.heap.size := (by omega); have c1_1 := fun o => hc1 (w.heap.size + 1) o (by go_size); have d1_1 := fun o => hd1 (w.heap.size + 1) o (by go_size); have z1_1 : w.heap.size + 1 < w1.heap.size := (by omega); have hk1 := Lib.hid hb1.block; clear hc1 hd1 hb1)
      all_goals
        ((try simp only [Exit.inBlock, Exit.then]); refine bodyPost_ret (by simp [results, Try.results33, go_sem, c1_0, c1_1]; try rfl) rfl ?_)
        refine ⟨?_, by go_grown⟩
        unfold paceHear
        rw [if_pos HO.out, if_pos hc]
    · by_cases hsd : s ≤ d
      · by_cases hb1 : 0 < b
        · by_cases hba : b ≤ a
          · have ha0 : (a == 0) = false := by simp; omega
            have hq1 : 0 ≤ 100 * n / a := Int.ediv_nonneg (by omega) (by omega)
            have hq2 : 100 * n / a ≤ 100 * n := Int.ediv_le_self _ (by omega)
            have ha1 : ¬ a = 0 := by omega
            go_enter Try.func33, Try.ntmps33
            go_wp2_with ((go_at_call 61; refine (HX.out _ _ (by first | (simp; done) | (go_simp; done)) (by first | (simp; done) | (go_simp; done)) (by go_size)).mono ?_; rintro e w1 ⟨rfl, hb1⟩; have hB1 := binto (by go_grown : Below w.heap.size w _) (by go_size) hb1; obtain ⟨hc1, hd1, hz1⟩ := bcell hb1; (try simp only [World.size_alloc, World.size_setCell, World.size_drew] at hz1); have c1_0 := fun o => hc1 (w.heap.size + 1) o (by go_size); have d1_0 := fun o => hd1 (w.heap.size + 1) o (by go_size); have z1_0 : w.heap.size + 1 < w1.heap.size := (by omega); have hk1 := Lib.hid hb1.block; clear hc1 hd1 hb1); obtain ⟨PW, hPW, p0, p1, p2, p3, q0, q1, q2, q3, pf, HPB, HPO⟩ := own4 (g := w.heap.size) (t := 38) (a := .int .i64 a) (b := .int .i64 b) (c := .int .i64 c) (d := .int .i64 d) (by rw [hk1.out _ (by go_size), heap_alloc_lt _ (by go_size), heap_alloc_lt _ (by go_size)]; exact heap_alloc_new _ _) hB1 (Nat.le_refl _); have r0 : ∀ x y z u, (PW x y z u).cell? ⟨w.heap.size + 1, 0, none⟩ = some (.int .i64 0) := (fun x y z u => by rw [(HPO.out x y z u _ 0 (by omega)).1, c1_0]; first | (simp; done) | (go_simp; done)); have r1 : ∀ x y z u, (PW x y z u).cell? ⟨w.heap.size + 1, 1, none⟩ = some (.int .i64 0) := (fun x y z u => by rw [(HPO.out x y z u _ 1 (by omega)).1, c1_0]; first | (simp; done) | (go_simp; done)); have r2 : ∀ x y z u, (PW x y z u).cell? ⟨w.heap.size + 1, 2, none⟩ = some (.int .i64 0) := (fun x y z u => by rw [(HPO.out x y z u _ 2 (by omega)).1, c1_0]; first | (simp; done) | (go_simp; done)); have r3 : ∀ x y z u, (PW x y z u).cell? ⟨w.heap.size + 1, 3, none⟩ = some (.int .i64 0) := (fun x y z u => by rw [(HPO.out x y z u _ 3 (by omega)).1, c1_0]; first | (simp; done) | (go_simp; done)); have rf : ∀ x y z u o, (PW x y z u).frozen? ⟨w.heap.size + 1, o, none⟩ = false := (fun x y z u o => by rw [(HPO.out x y z u _ o (by omega)).2, d1_0]; first | (simp; done) | (go_simp; done)); subst hPW; clear hk1 c1_0 d1_0)
            all_goals
              ((try simp only [Exit.inBlock, Exit.then]); refine bodyPost_ret (by simp [results, Try.results33, go_sem, r0, r1, r2, r3]; try rfl) rfl ?_)
              refine ⟨?_, by first | (go_grown; done) | (go_grown; exact HPB.out _ _ _ _)⟩
              unfold paceHear
              rw [if_pos HO.out, if_neg (by omega), if_pos (by omega)]
          · go_enter Try.func33, Try.ntmps33
            go_wp2_with ((go_at_call 61; refine (HX.out _ _ (by first | (simp; done) | (go_simp; done)) (by first | (simp; done) | (go_simp; done)) (by go_size)).mono ?_; rintro e w1 ⟨rfl, hb1⟩; have hB1 := binto (by go_grown : Below w.heap.size w _) (by go_size) hb1; obtain ⟨hc1, hd1, hz1⟩ := bcell hb1; (try simp only [World.size_alloc, World.size_setCell, World.size_drew] at hz1); have c1_0 := fun o => hc1 (w.heap.size + 1) o (by go_size); have d1_0 := fun o => hd1 (w.heap.size + 1) o (by go_size); have z1_0 : w.heap.size + 1 < w1.heap.size := (by omega); have hk1 := Lib.hid hb1.block; clear hc1 hd1 hb1); obtain ⟨PW, hPW, p0, p1, p2, p3, q0, q1, q2, q3, pf, HPB, HPO⟩ := own4 (g := w.heap.size) (t := 38) (a := .int .i64 a) (b := .int .i64 b) (c := .int .i64 c) (d := .int .i64 d) (by rw [hk1.out _ (by go_size), heap_alloc_lt _ (by go_size), heap_alloc_lt _ (by go_size)]; exact heap_alloc_new _ _) hB1 (Nat.le_refl _); have r0 : ∀ x y z u, (PW x y z u).cell? ⟨w.heap.size + 1, 0, none⟩ = some (.int .i64 0) := (fun x y z u => by rw [(HPO.out x y z u _ 0 (by omega)).1, c1_0]; first | (simp; done) | (go_simp; done)); have r1 : ∀ x y z u, (PW x y z u).cell? ⟨w.heap.size + 1, 1, none⟩ = some (.int .i64 0) := (fun x y z u => by rw [(HPO.out x y z u _ 1 (by omega)).1, c1_0]; first | (simp; done) | (go_simp; done)); have r2 : ∀ x y z u, (PW x y z u).cell? ⟨w.heap.size + 1, 2, none⟩ = some (.int .i64 0) := (fun x y z u => by rw [(HPO.out x y z u _ 2 (by omega)).1, c1_0]; first | (simp; done) | (go_simp; done)); have r3 : ∀ x y z u, (PW x y z u).cell? ⟨w.heap.size + 1, 3, none⟩ = some (.int .i64 0) := (fun x y z u => by rw [(HPO.out x y z u _ 3 (by omega)).1, c1_0]; first | (simp; done) | (go_simp; done)); have rf : ∀ x y z u o, (PW x y z u).frozen? ⟨w.heap.size + 1, o, none⟩ = false := (fun x y z u o => by rw [(HPO.out x y z u _ o (by omega)).2, d1_0]; first | (simp; done) | (go_simp; done)); subst hPW; clear hk1 c1_0 d1_0)
            all_goals
              ((try simp only [Exit.inBlock, Exit.then]); refine bodyPost_ret (by simp [results, Try.results33, go_sem, r0, r1, r2, r3]; try rfl) rfl ?_)
              refine ⟨?_, by first | (go_grown; done) | (go_grown; exact HPB.out _ _ _ _)⟩
              unfold paceHear
              rw [if_pos HO.out, if_neg (by omega), if_pos (by omega)]
        · go_enter Try.func33, Try.ntmps33
          go_wp2_with ((go_at_call 61; refine (HX.out _ _ (by first | (simp; done) | (go_simp; done)) (by first | (simp; done) | (go_simp; done)) (by go_size)).mono ?_; rintro e w1 ⟨rfl, hb1⟩; have hB1 := binto (by go_grown : Below w.heap.size w _) (by go_size) hb1; obtain ⟨hc1, hd1, hz1⟩ := bcell hb1; (try simp only [World.size_alloc, World.size_setCell, World.size_drew] at hz1); have c1_0 := fun o => hc1 (w.heap.size + 1) o (by go_size); have d1_0 := fun o => hd1 (w.heap.size + 1) o (by go_size); have z1_0 : w.heap.size + 1 < w1.heap.size := (by omega); have hk1 := Lib.hid hb1.block; clear hc1 hd1 hb1); obtain ⟨PW, hPW, p0, p1, p2, p3, q0, q1, q2, q3, pf, HPB, HPO⟩ := own4 (g := w.heap.size) (t := 38) (a := .int .i64 a) (b := .int .i64 b) (c := .int .i64 c) (d := .int .i64 d) (by rw [hk1.out _ (by go_size), heap_alloc_lt _ (by go_size), heap_alloc_lt _ (by go_size)]; exact heap_alloc_new _ _) hB1 (Nat.le_refl _); have r0 : ∀ x y z u, (PW x y z u).cell? ⟨w.heap.size + 1, 0, none⟩ = some (.int .i64 0) := (fun x y z u => by rw [(HPO.out x y z u _ 0 (by omega)).1, c1_0]; first | (simp; done) | (go_simp; done)); have r1 : ∀ x y z u, (PW x y z u).cell? ⟨w.heap.size + 1, 1, none⟩ = some (.int .i64 0) := (fun x y z u => by rw [(HPO.out x y z u _ 1 (by omega)).1, c1_0]; first | (simp; done) | (go_simp; done)); have r2 : ∀ x y z u, (PW x y z u).cell? ⟨w.heap.size + 1, 2, none⟩ = some (.int .i64 0) := (fun x y z u => by rw [(HPO.out x y z u _ 2 (by omega)).1, c1_0]; first | (simp; done) | (go_simp; done)); have r3 : ∀ x y z u, (PW x y z u).cell? ⟨w.heap.size + 1, 3, none⟩ = some (.int .i64 0) := (fun x y z u => by rw [(HPO.out x y z u _ 3 (by omega)).1, c1_0]; first | (simp; done) | (go_simp; done)); have rf : ∀ x y z u o, (PW x y z u).frozen? ⟨w.heap.size + 1, o, none⟩ = false := (fun x y z u o => by rw [(HPO.out x y z u _ o (by omega)).2, d1_0]; first | (simp; done) | (go_simp; done)); subst hPW; clear hk1 c1_0 d1_0)
          all_goals
            ((try simp only [Exit.inBlock, Exit.then]); refine bodyPost_ret (by simp [results, Try.results33, go_sem, r0, r1, r2, r3]; try rfl) rfl ?_)
            refine ⟨?_, by first | (go_grown; done) | (go_grown; exact HPB.out _ _ _ _)⟩
            unfold paceHear
            rw [if_pos HO.out, if_neg (by omega), if_pos (by omega)]
      · have HC : Hid (¬ c < n) := hc
        have HSD : Hid (¬ s ≤ d) := hsd
        by_cases hb0 : b = 0
        · have HQ := Lib.hid (show heardQ a b n = n from if_pos (Or.inl hb0))
          have hbt : ¬ 0 < b := by omega
          clear hb0
          go_enter Try.func33, Try.ntmps33
          go_wp2_with ((go_at_call 61; refine (HX.out _ _ (by first | (simp; done) | (go_simp; done)) (by first | (simp; done) | (go_simp; done)) (by go_size)).mono ?_; rintro e w1 ⟨rfl, hb1⟩; have hB1 := binto (by go_grown : Below w.heap.size w _) (by go_size) hb1; obtain ⟨hc1, hd1, hz1⟩ := bcell hb1; (try simp only [World.size_alloc, World.size_setCell, World.size_drew] at hz1); have c1_0 := fun o => hc1 (w.heap.size + 1) o (by go_size); have d1_0 := fun o => hd1 (w.heap.size + 1) o (by go_size); have z1_0 : w.heap.size + 1 < w1.heap.size := (by omega); have hk1 := Lib.hid hb1.block; clear hc1 hd1 hb1); obtain ⟨PW, hPW, p0, p1, p2, p3, q0, q1, q2, q3, pf, HPB, HPO⟩ := own4 (g := w.heap.size) (t := 38) (a := .int .i64 a) (b := .int .i64 b) (c := .int .i64 c) (d := .int .i64 d) (by rw [hk1.out _ (by go_size), heap_alloc_lt _ (by go_size), heap_alloc_lt _ (by go_size)]; exact heap_alloc_new _ _) hB1 (Nat.le_refl _); have r0 : ∀ x y z u, (PW x y z u).cell? ⟨w.heap.size + 1, 0, none⟩ = some (.int .i64 0) := (fun x y z u => by rw [(HPO.out x y z u _ 0 (by omega)).1, c1_0]; first | (simp; done) | (go_simp; done)); have r1 : ∀ x y z u, (PW x y z u).cell? ⟨w.heap.size + 1, 1, none⟩ = some (.int .i64 0) := (fun x y z u => by rw [(HPO.out x y z u _ 1 (by omega)).1, c1_0]; first | (simp; done) | (go_simp; done)); have r2 : ∀ x y z u, (PW x y z u).cell? ⟨w.heap.size + 1, 2, none⟩ = some (.int .i64 0) := (fun x y z u => by rw [(HPO.out x y z u _ 2 (by omega)).1, c1_0]; first | (simp; done) | (go_simp; done)); have r3 : ∀ x y z u, (PW x y z u).cell? ⟨w.heap.size + 1, 3, none⟩ = some (.int .i64 0) := (fun x y z u => by rw [(HPO.out x y z u _ 3 (by omega)).1, c1_0]; first | (simp; done) | (go_simp; done)); have rf : ∀ x y z u o, (PW x y z u).frozen? ⟨w.heap.size + 1, o, none⟩ = false := (fun x y z u o => by rw [(HPO.out x y z u _ o (by omega)).2, d1_0]; first | (simp; done) | (go_simp; done)); subst hPW; clear hk1 c1_0 d1_0)
          all_goals
            ((try simp only [Exit.inBlock, Exit.then]); refine bodyPost_ret (by simp [results, Try.results33, go_sem, r0, r1, r2, r3]; try rfl) rfl ?_)
            refine ⟨?_, by first | (go_grown; done) | (go_grown; exact HPB.out _ _ _ _)⟩
            unfold paceHear
            rw [if_pos HO.out, if_neg (by omega), if_neg (by omega), HQ.out]
            (try simp only [Bool.not_eq_true', Bool.not_eq_false', Bool.and_eq_true, Bool.or_eq_true, Bool.and_eq_false_iff, Bool.or_eq_false_iff, decide_eq_true_eq, decide_eq_false_iff_not, Int.not_le, Int.not_lt] at *)
            first
              | (rw [show min (a + n) 1099511627776 = a + n from by omega]; done)
              | (rw [show min (a + n) 1099511627776 = 1099511627776 from by omega]; done)
        · have hbf : 0 < b := by omega
          by_cases hab : a < b
          · have HQ := Lib.hid (show heardQ a b n = n from if_pos (Or.inr hab))
            clear hb0
            go_enter Try.func33, Try.ntmps33
            go_wp2_with ((go_at_call 61; refine (HX.out _ _ (by first | (simp; done) | (go_simp; done)) (by first | (simp; done) | (go_simp; done)) (by go_size)).mono ?_; rintro e w1 ⟨rfl, hb1⟩; have hB1 := binto (by go_grown : Below w.heap.size w _) (by go_size) hb1; obtain ⟨hc1, hd1, hz1⟩ := bcell hb1; (try simp only [World.size_alloc, World.size_setCell, World.size_drew] at hz1); have c1_0 := fun o => hc1 (w.heap.size + 1) o (by go_size); have d1_0 := fun o => hd1 (w.heap.size + 1) o (by go_size); have z1_0 : w.heap.size + 1 < w1.heap.size := (by omega); have hk1 := Lib.hid hb1.block; clear hc1 hd1 hb1); obtain ⟨PW, hPW, p0, p1, p2, p3, q0, q1, q2, q3, pf, HPB, HPO⟩ := own4 (g := w.heap.size) (t := 38) (a := .int .i64 a) (b := .int .i64 b) (c := .int .i64 c) (d := .int .i64 d) (by rw [hk1.out _ (by go_size), heap_alloc_lt _ (by go_size), heap_alloc_lt _ (by go_size)]; exact heap_alloc_new _ _) hB1 (Nat.le_refl _); have r0 : ∀ x y z u, (PW x y z u).cell? ⟨w.heap.size + 1, 0, none⟩ = some (.int .i64 0) := (fun x y z u => by rw [(HPO.out x y z u _ 0 (by omega)).1, c1_0]; first | (simp; done) | (go_simp; done)); have r1 : ∀ x y z u, (PW x y z u).cell? ⟨w.heap.size + 1, 1, none⟩ = some (.int .i64 0) := (fun x y z u => by rw [(HPO.out x y z u _ 1 (by omega)).1, c1_0]; first | (simp; done) | (go_simp; done)); have r2 : ∀ x y z u, (PW x y z u).cell? ⟨w.heap.size + 1, 2, none⟩ = some (.int .i64 0) := (fun x y z u => by rw [(HPO.out x y z u _ 2 (by omega)).1, c1_0]; first | (simp; done) | (go_simp; done)); have r3 : ∀ x y z u, (PW x y z u).cell? ⟨w.heap.size + 1, 3, none⟩ = some (.int .i64 0) := (fun x y z u => by rw [(HPO.out x y z u _ 3 (by omega)).1, c1_0]; first | (simp; done) | (go_simp; done)); have rf : ∀ x y z u o, (PW x y z u).frozen? ⟨w.heap.size + 1, o, none⟩ = false := (fun x y z u o => by rw [(HPO.out x y z u _ o (by omega)).2, d1_0]; first | (simp; done) | (go_simp; done)); subst hPW; clear hk1 c1_0 d1_0)
            all_goals
              ((try simp only [Exit.inBlock, Exit.then]); refine bodyPost_ret (by simp [results, Try.results33, go_sem, r0, r1, r2, r3]; try rfl) rfl ?_)
              refine ⟨?_, by first | (go_grown; done) | (go_grown; exact HPB.out _ _ _ _)⟩
              unfold paceHear
              rw [if_pos HO.out, if_neg (by omega), if_neg (by omega), HQ.out]
              (try simp only [Bool.not_eq_true', Bool.not_eq_false', Bool.and_eq_true, Bool.or_eq_true, Bool.and_eq_false_iff, Bool.or_eq_false_iff, decide_eq_true_eq, decide_eq_false_iff_not, Int.not_le, Int.not_lt] at *)
              first
                | (rw [show min (a + n) 1099511627776 = a + n from by omega]; done)
                | (rw [show min (a + n) 1099511627776 = 1099511627776 from by omega]; done)
          · have HQ := Lib.hid (show heardQ a b n = 100 * n / a from if_neg (by omega))
            have ha0 : (a == 0) = false := by simp; omega
            have hq1 : 0 ≤ 100 * n / a := Int.ediv_nonneg (by omega) (by omega)
            have hq2 : 100 * n / a ≤ 100 * n := Int.ediv_le_self _ (by omega)
            have ha1 : ¬ a = 0 := by omega
            clear hb0
            go_enter Try.func33, Try.ntmps33
            go_wp2_with ((go_at_call 61; refine (HX.out _ _ (by first | (simp; done) | (go_simp; done)) (by first | (simp; done) | (go_simp; done)) (by go_size)).mono ?_; rintro e w1 ⟨rfl, hb1⟩; have hB1 := binto (by go_grown : Below w.heap.size w _) (by go_size) hb1; obtain ⟨hc1, hd1, hz1⟩ := bcell hb1; (try simp only [World.size_alloc, World.size_setCell, World.size_drew] at hz1); have c1_0 := fun o => hc1 (w.heap.size + 1) o (by go_size); have d1_0 := fun o => hd1 (w.heap.size + 1) o (by go_size); have z1_0 : w.heap.size + 1 < w1.heap.size := (by omega); have hk1 := Lib.hid hb1.block; clear hc1 hd1 hb1); obtain ⟨PW, hPW, p0, p1, p2, p3, q0, q1, q2, q3, pf, HPB, HPO⟩ := own4 (g := w.heap.size) (t := 38) (a := .int .i64 a) (b := .int .i64 b) (c := .int .i64 c) (d := .int .i64 d) (by rw [hk1.out _ (by go_size), heap_alloc_lt _ (by go_size), heap_alloc_lt _ (by go_size)]; exact heap_alloc_new _ _) hB1 (Nat.le_refl _); have r0 : ∀ x y z u, (PW x y z u).cell? ⟨w.heap.size + 1, 0, none⟩ = some (.int .i64 0) := (fun x y z u => by rw [(HPO.out x y z u _ 0 (by omega)).1, c1_0]; first | (simp; done) | (go_simp; done)); have r1 : ∀ x y z u, (PW x y z u).cell? ⟨w.heap.size + 1, 1, none⟩ = some (.int .i64 0) := (fun x y z u => by rw [(HPO.out x y z u _ 1 (by omega)).1, c1_0]; first | (simp; done) | (go_simp; done)); have r2 : ∀ x y z u, (PW x y z u).cell? ⟨w.heap.size + 1, 2, none⟩ = some (.int .i64 0) := (fun x y z u => by rw [(HPO.out x y z u _ 2 (by omega)).1, c1_0]; first | (simp; done) | (go_simp; done)); have r3 : ∀ x y z u, (PW x y z u).cell? ⟨w.heap.size + 1, 3, none⟩ = some (.int .i64 0) := (fun x y z u => by rw [(HPO.out x y z u _ 3 (by omega)).1, c1_0]; first | (simp; done) | (go_simp; done)); have rf : ∀ x y z u o, (PW x y z u).frozen? ⟨w.heap.size + 1, o, none⟩ = false := (fun x y z u o => by rw [(HPO.out x y z u _ o (by omega)).2, d1_0]; first | (simp; done) | (go_simp; done)); subst hPW; clear hk1 c1_0 d1_0)
            all_goals
              ((try simp only [Exit.inBlock, Exit.then]); refine bodyPost_ret (by simp [results, Try.results33, go_sem, r0, r1, r2, r3]; try rfl) rfl ?_)
              refine ⟨?_, by first | (go_grown; done) | (go_grown; exact HPB.out _ _ _ _)⟩
              unfold paceHear
              rw [if_pos HO.out, if_neg (by omega), if_neg (by omega), HQ.out]
              (try simp only [Bool.not_eq_true', Bool.not_eq_false', Bool.and_eq_true, Bool.or_eq_true, Bool.and_eq_false_iff, Bool.or_eq_false_iff, decide_eq_true_eq, decide_eq_false_iff_not, Int.not_le, Int.not_lt] at *)
              first
                | (rw [show min (a + 100 * n / a) 1099511627776 = a + 100 * n / a from by omega]; done)
                | (rw [show min (a + 100 * n / a) 1099511627776 = 1099511627776 from by omega]; done)
  · have HO := Lib.hid ho
    have HE := Lib.hid (show paceHear a b c d n s = _ from if_neg ho)
    generalize paceFlt2 a b c d n s = z at *
    have hz : (z == 0) = false := by simpa using ho
    have HX := Lib.hid hx
    clear hx ho
    go_enter Try.func33, Try.ntmps33
    go_wp2_with (go_at_call 61; refine (HX.out _ _ (by first | (simp; done) | (go_simp; done)) (by first | (simp; done) | (go_simp; done)) (by go_size)).mono ?_; rintro e w1 ⟨rfl, hb1⟩; have hB1 := binto (by go_grown : Below w.heap.size w _) (by go_size) hb1; obtain ⟨hc1, hd1, hz1⟩ := bcell hb1; (try simp only [World.size_alloc, World.size_setCell, World.size_drew] at hz1); have c1_0 := fun o => hc1 (w.heap.size) o (by go_size); have d1_0 := fun o => hd1 (w.heap.size) o (by go_size); have z1_0 : w.heap.size < w1.heap.size := (by omega); have c1_1 := fun o => hc1 (w.heap.size + 1) o (by go_size); have d1_1 := fun o => hd1 (w.heap.size + 1) o (by go_size); have z1_1 : w.heap.size + 1 < w1.heap.size := (by omega); have hk1 := Lib.hid hb1.block; clear hc1 hd1 hb1)
    all_goals
      ((try simp only [Exit.inBlock, Exit.then]); refine bodyPost_ret (by simp [results, Try.results33, go_sem, c1_0, c1_1]; try rfl) rfl ?_)
      refine ⟨?_, by go_grown⟩
      rw [HE.out]
end Go.Proofs.Ythgmpeilolephaa
