/-
  PaceHears: pace.Heard answers what P12.4 says, at every argument. No condition.
-/
import Derived.Test.YthgmpeilolephaaPaceHear
set_option linter.unusedSimpArgs false
set_option linter.unusedVariables false
namespace Go.Proofs.Ythgmpeilolephaa.paceHears
open Go.ChangeShapes Go.WideShapes Go.ChangeAt Go.RowKit

theorem paceHear_form (a b c d n s : Int) : ∃ x y z t e, paceHear a b c d n s = .returned (.tuple #[.agg #[.int .i64 x, .int .i64 y, .int .i64 z, .int .i64 t], .int .i64 e]) := by
  unfold paceHear
  dsimp only
  split
  · split
    · exact ⟨_, _, _, _, _, rfl⟩
    · split <;> exact ⟨_, _, _, _, _, rfl⟩
  · exact ⟨_, _, _, _, _, rfl⟩

set_option maxHeartbeats 2000000 in
theorem walkI (a b c d n s : Int) (hn : I64 n) (hs : I64 s) (hd : I64 d) (w : World) : Calls Try.prog 8 #[.agg #[.int .i64 a, .int .i64 b, .int .i64 c, .int .i64 d], .int .i64 n, .int .i64 s] w fun e w' => e = .returned (.bool true) ∧ Below w.heap.size w w' := by
  obtain ⟨x, y, z, t, e, h⟩ := paceHear_form a b c d n s
  have k1 := paceHeard_calls a b c d n s hn hs
  have k2 := paceHeardRef_calls a b c d n s hn hs hd
  rw [h] at k1 k2
  have K1 := Lib.hid k1
  have K2 := Lib.hid k2
  clear k1 k2 h hn hd hs
  have hm : Try.prog.eqGuardType Try.prog.depth 38 = false := by kernel_rfl
  have hs : Try.prog.stoodInHeld 38 = false := by kernel_rfl
  go_enter Try.func8, Try.ntmps8
  go_wp2_with (first
    | (go_at_call 32; refine (K1.out _).mono ?_; rintro e w1 ⟨rfl, hb1⟩; have hB1 := binto (by go_grown : Below w.heap.size w _) (by go_size) hb1; obtain ⟨hc1, hd1, hz1⟩ := bcell hb1; (try simp only [World.size_alloc, World.size_setCell, World.size_drew] at hz1); have c1_0 := fun o => hc1 (w.heap.size) o (by go_size); have d1_0 := fun o => hd1 (w.heap.size) o (by go_size); have z1_0 : w.heap.size < w1.heap.size := (by omega); have hk1 := Lib.hid hb1.block; clear hc1 hd1 hb1)
    | (go_at_call 33; refine (K2.out _).mono ?_; rintro e w2 ⟨rfl, hb2⟩; have hB2 := binto (by go_grown : Below w.heap.size w _) (by go_size) hb2; obtain ⟨hc2, hd2, hz2⟩ := bcell hb2; (try simp only [World.size_alloc, World.size_setCell, World.size_drew] at hz2); have c2_0 := fun o => hc2 (w.heap.size) o (by go_size); have d2_0 := fun o => hd2 (w.heap.size) o (by go_size); have z2_0 : w.heap.size < w2.heap.size := (by omega); have c2_1 := fun o => hc2 (w1.heap.size) o (by go_size); have d2_1 := fun o => hd2 (w1.heap.size) o (by go_size); have z2_1 : w1.heap.size < w2.heap.size := (by omega); have hk2 := Lib.hid hb2.block; clear hc2 hd2 hb2))
  go_ret
  exact ⟨rfl, by go_grown⟩

theorem walk (w : World) (v0 v1 v2 : Value) (h0 : ArgIs Try.prog w 38 v0) (h1 : ArgIs Try.prog w 3 v1) (h2 : ArgIs Try.prog w 3 v2) :
    Calls Try.prog 8 #[v0, v1, v2] w fun e w' => e = .returned (.bool true) ∧ Below w.heap.size w w' := by
  obtain ⟨cs, rfl, hc⟩ := h0.struct_ Try.underlying38
  obtain ⟨x, rfl, _, _, _, hd⟩ := rPace_of_cells _ hc
  obtain ⟨n, rfl, hn⟩ := h1.int_ Try.underlying3
  obtain ⟨s, rfl, hs⟩ := h2.int_ Try.underlying3
  exact walkI _ _ _ _ n s (i64_of_wf hn) (i64_of_wf hs) hd w

set_option maxRecDepth 100000 in
theorem lifted (os : Os) (started : os.Started) (H : Type) (enc : TypeId × Value → H) :
    ReturnsInHanded {} Try.checked os 8 .any (Rows.paceHearsSpec.pre6 enc Try.prog Try.f8 Rows.paceHearsRow.domain false) (Rows.paceHearsSpec.post enc Try.prog Try.f8 false true false false) :=
  law_lifted (C := Try.checked) (s := Rows.paceHearsSpec) (by kernel_rfl) started (by kernel_rfl) Try.func8
    (ChangeSpec.witness6 (enc := enc) (C := Try.checked) false ⟨#[], #[.agg #[.int .i64 0, .int .i64 0, .int .i64 0, .int .i64 0], .int .i64 0, .int .i64 0], []⟩ 8 (by kernel_rfl) (by kernel_rfl) (by kernel_rfl) (by kernel_rfl))
    (by kernel_rfl) rfl (fun ds hd => by
      match ds, hd with
      | [_, _, _], _ => rfl) rfl Try.underlying4 (by kernel_rfl)
    (fun W args h => by
      rw [Try.params8] at h
      obtain ⟨v0, l0, e0, h0, r0⟩ := h
      obtain ⟨v1, l1, e1, h1, r1⟩ := r0
      obtain ⟨v2, l2, e2, h2, r2⟩ := r1
      have r2' : l2 = [] := r2
      obtain rfl : args = #[v0, v1, v2] := by
        apply Array.toList_inj.1
        rw [e0, e1, e2, r2']
      exact walk W v0 v1 v2 h0 h1 h2)

theorem over : Rows.paceHearsRow.holds Try.pinned (OpenSpec.ofChange Rows.paceHearsSpec) :=
  OpenClaim.holds_of_wide 8 Try.f8 rfl rfl rfl rfl rfl rfl rfl ⟨rfl, rfl, rfl, rfl, rfl⟩ rfl rfl rfl rfl rfl (by kernel_rfl) Try.func8 (by kernel_rfl)
    (of_decide_eq_true (by kernel_rfl)) (by unfold Func.isWrapper; first | (rw [if_pos (by decide +kernel)]; kernel_rfl) | (rw [if_neg (by decide +kernel)]; exact ⟨rfl, rfl⟩))
    (fun os started H enc _ => lifted os started H enc)

theorem proved : Rows.PaceHearsSaid := over
#print axioms proved

end Go.Proofs.Ythgmpeilolephaa.paceHears
