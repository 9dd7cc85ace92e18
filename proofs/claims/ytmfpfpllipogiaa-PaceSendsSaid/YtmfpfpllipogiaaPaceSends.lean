/-
  PaceSends: pace.Check, Begin and Send answer what P12.1, P12.2 and P12.3 say, at every argument. No condition.
-/
import Derived.Test.YtmfpfpllipogiaaPace
set_option linter.unusedSimpArgs false
set_option linter.unusedVariables false
namespace Go.Proofs.Ytmfpfpllipogiaa.paceSends
open Go.ChangeShapes Go.WideShapes Go.ChangeAt Go.RowKit

theorem paceSend_form (a b c d n : Int) : ∃ x y z t u e, paceSend a b c d n = .returned (.tuple #[.agg #[.int .i64 x, .int .i64 y, .int .i64 z, .int .i64 t], .bool u, .int .i64 e]) := by
  unfold paceSend
  dsimp only
  split
  · split <;> exact ⟨_, _, _, _, _, _, rfl⟩
  · exact ⟨_, _, _, _, _, _, rfl⟩

set_option maxHeartbeats 2000000 in
theorem walkI (a b c d n : Int) (hn : I64 n) (hd : I64 d) (w : World) : Calls Try.prog 14 #[.agg #[.int .i64 a, .int .i64 b, .int .i64 c, .int .i64 d], .int .i64 n] w fun e w' => e = .returned (.bool true) ∧ Below w.heap.size w w' := by
  obtain ⟨x, y, z, t, u, e, h⟩ := paceSend_form a b c d n
  have k1 := paceCheck_calls a b c d
  have k2 := paceFault_calls a b c d hd
  have k3 := paceSend_calls a b c d n hn
  have k4 := paceSent_calls a b c d n hn hd
  rw [h] at k3 k4
  generalize paceFlt a b c d = q at *
  have K1 := Lib.hid k1
  have K2 := Lib.hid k2
  have K3 := Lib.hid k3
  have K4 := Lib.hid k4
  clear k1 k2 k3 k4 h hn hd
  have hm : Try.prog.eqGuardType Try.prog.depth 67 = false := by kernel_rfl
  have hs : Try.prog.stoodInHeld 67 = false := by kernel_rfl
  go_enter Try.func14, Try.ntmps14
  go_wp2_with (first
    | (go_at_call 50; refine (K1.out _).mono ?_; rintro e w1 ⟨rfl, hb1⟩; have hB1 := binto (by go_grown : Below w.heap.size w _) (by go_size) hb1; obtain ⟨hc1, hd1, hz1⟩ := bcell hb1; (try simp only [World.size_alloc, World.size_setCell, World.size_drew] at hz1); have c1_0 := fun o => hc1 (w.heap.size) o (by go_size); have d1_0 := fun o => hd1 (w.heap.size) o (by go_size); have z1_0 : w.heap.size < w1.heap.size := (by omega); have hk1 := Lib.hid hb1.block; clear hc1 hd1 hb1)
    | (go_at_call 51; refine (K3.out _).mono ?_; rintro e w2 ⟨rfl, hb2⟩; have hB2 := binto (by go_grown : Below w.heap.size w _) (by go_size) hb2; obtain ⟨hc2, hd2, hz2⟩ := bcell hb2; (try simp only [World.size_alloc, World.size_setCell, World.size_drew] at hz2); have c2_0 := fun o => hc2 (w.heap.size) o (by go_size); have d2_0 := fun o => hd2 (w.heap.size) o (by go_size); have z2_0 : w.heap.size < w2.heap.size := (by omega); have hk2 := Lib.hid hb2.block; clear hc2 hd2 hb2)
    | (go_at_call 52; refine (K2.out _).mono ?_; rintro e w3 ⟨rfl, hb3⟩; have hB3 := binto (by go_grown : Below w.heap.size w _) (by go_size) hb3; obtain ⟨hc3, hd3, hz3⟩ := bcell hb3; (try simp only [World.size_alloc, World.size_setCell, World.size_drew] at hz3); have c3_0 := fun o => hc3 (w.heap.size) o (by go_size); have d3_0 := fun o => hd3 (w.heap.size) o (by go_size); have z3_0 : w.heap.size < w3.heap.size := (by omega); have c3_1 := fun o => hc3 (w2.heap.size) o (by go_size); have d3_1 := fun o => hd3 (w2.heap.size) o (by go_size); have z3_1 : w2.heap.size < w3.heap.size := (by omega); have hk3 := Lib.hid hb3.block; clear hc3 hd3 hb3)
    | (go_at_call 53; refine (K4.out _).mono ?_; rintro e w4 ⟨rfl, hb4⟩; have hB4 := binto (by go_grown : Below w.heap.size w _) (by go_size) hb4; obtain ⟨hc4, hd4, hz4⟩ := bcell hb4; (try simp only [World.size_alloc, World.size_setCell, World.size_drew] at hz4); have c4_0 := fun o => hc4 (w.heap.size) o (by go_size); have d4_0 := fun o => hd4 (w.heap.size) o (by go_size); have z4_0 : w.heap.size < w4.heap.size := (by omega); have c4_1 := fun o => hc4 (w2.heap.size) o (by go_size); have d4_1 := fun o => hd4 (w2.heap.size) o (by go_size); have z4_1 : w2.heap.size < w4.heap.size := (by omega); have hk4 := Lib.hid hb4.block; clear hc4 hd4 hb4)
    | (go_at_call 54; refine (paceBegin_calls _).mono ?_; rintro e w5 ⟨rfl, hb5⟩; have hB5 := binto (by go_grown : Below w.heap.size w _) (by go_size) hb5; obtain ⟨hc5, hd5, hz5⟩ := bcell hb5; (try simp only [World.size_alloc, World.size_setCell, World.size_drew] at hz5); have c5_0 := fun o => hc5 (w2.heap.size) o (by go_size); have d5_0 := fun o => hd5 (w2.heap.size) o (by go_size); have z5_0 : w2.heap.size < w5.heap.size := (by omega); have c5_1 := fun o => hc5 (w4.heap.size) o (by go_size); have d5_1 := fun o => hd5 (w4.heap.size) o (by go_size); have z5_1 : w4.heap.size < w5.heap.size := (by omega); have hk5 := Lib.hid hb5.block; clear hc5 hd5 hb5))
  all_goals go_ret
  all_goals exact ⟨rfl, by go_grown⟩

theorem walk (w : World) (v0 v1 : Value) (h0 : ArgIs Try.prog w 67 v0) (h1 : ArgIs Try.prog w 3 v1) :
    Calls Try.prog 14 #[v0, v1] w fun e w' => e = .returned (.bool true) ∧ Below w.heap.size w w' := by
  obtain ⟨cs, rfl, hc⟩ := h0.struct_ Try.underlying67
  obtain ⟨x, rfl, _, _, _, hd⟩ := rPace_of_cells _ hc
  obtain ⟨n, rfl, hn⟩ := h1.int_ Try.underlying3
  exact walkI _ _ _ _ n (i64_of_wf hn) hd w

set_option maxRecDepth 100000 in
theorem lifted (os : Os) (started : os.Started) (H : Type) (enc : TypeId × Value → H) :
    ReturnsInHanded {} Try.checked os 14 .any (Rows.paceSendsSpec.pre6 enc Try.prog Try.f14 Rows.paceSendsRow.domain false) (Rows.paceSendsSpec.post enc Try.prog Try.f14 false true false false) :=
  law_lifted (C := Try.checked) (s := Rows.paceSendsSpec) (by kernel_rfl) started (by kernel_rfl) Try.func14
    (ChangeSpec.witness6 (enc := enc) (C := Try.checked) false ⟨#[], #[.agg #[.int .i64 0, .int .i64 0, .int .i64 0, .int .i64 0], .int .i64 0], []⟩ 8 (by kernel_rfl) (by kernel_rfl) (by kernel_rfl) (by kernel_rfl))
    (by kernel_rfl) rfl (fun ds hd => by
      match ds, hd with
      | [_, _], _ => rfl) rfl Try.underlying4 (by kernel_rfl)
    (fun W args h => by
      rw [Try.params14] at h
      obtain ⟨v0, l0, e0, h0, r0⟩ := h
      obtain ⟨v1, l1, e1, h1, r1⟩ := r0
      have r1' : l1 = [] := r1
      obtain rfl : args = #[v0, v1] := by
        apply Array.toList_inj.1
        rw [e0, e1, r1']
      exact walk W v0 v1 h0 h1)

theorem over : Rows.paceSendsRow.holds Try.pinned (OpenSpec.ofChange Rows.paceSendsSpec) :=
  OpenClaim.holds_of_wide 14 Try.f14 rfl rfl rfl rfl rfl rfl rfl ⟨rfl, rfl, rfl, rfl, rfl⟩ rfl rfl rfl rfl rfl (by kernel_rfl) Try.func14 (by kernel_rfl)
    (of_decide_eq_true (by kernel_rfl)) (by unfold Func.isWrapper; first | (rw [if_pos (by decide +kernel)]; kernel_rfl) | (rw [if_neg (by decide +kernel)]; exact ⟨rfl, rfl⟩))
    (fun os started H enc _ => lifted os started H enc)

theorem proved : Rows.PaceSendsSaid := over
#print axioms proved

end Go.Proofs.Ytmfpfpllipogiaa.paceSends
