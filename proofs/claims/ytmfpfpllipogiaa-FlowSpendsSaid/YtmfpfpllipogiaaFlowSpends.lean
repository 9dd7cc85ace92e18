/-
  FlowSpends: flow.Check and flow.Spend answer what P9.1 and P9.2 say, at every argument. No condition.
-/
import Derived.Test.YtmfpfpllipogiaaFlow
set_option linter.unusedSimpArgs false
set_option linter.unusedVariables false
namespace Go.Proofs.Ytmfpfpllipogiaa.flowSpends
open Go.ChangeShapes Go.WideShapes Go.ChangeAt Go.RowKit

set_option maxHeartbeats 400000 in
theorem walkI (a b n : Int) (w : World) : Calls Try.prog 8 #[.agg #[.int .i64 a, .int .i64 b], .int .i64 n] w fun e w' => e = .returned (.bool true) ∧ Below w.heap.size w w' := by
  obtain ⟨x, y, z, h⟩ : ∃ x y z, flowSpend a b n = .returned (.tuple #[.agg #[.int .i64 x, .int .i64 y], .int .i64 z]) := by
    unfold flowSpend
    dsimp only
    split
    · exact ⟨_, _, _, rfl⟩
    · split
      · exact ⟨_, _, _, rfl⟩
      · split <;> exact ⟨_, _, _, rfl⟩
  have k1 := flowSpend_calls a b n
  have k2 := flowSpent_calls a b n
  rw [h] at k1 k2
  have K1 := Lib.hid k1
  have K2 := Lib.hid k2
  clear k1 k2 h
  have hm : Try.prog.eqGuardType Try.prog.depth 38 = false := by kernel_rfl
  have hs : Try.prog.stoodInHeld 38 = false := by kernel_rfl
  go_enter Try.func8, Try.ntmps8
  go_wp2_with (first
    | (go_at_call 26; refine (flowCheck_calls _ _ _).mono ?_; rintro e w1 ⟨rfl, hb1⟩; have hB1 := binto (by go_grown : Below w.heap.size w _) (by go_size) hb1; obtain ⟨hc1, hd1, hz1⟩ := bcell hb1; (try simp only [World.size_alloc, World.size_setCell, World.size_drew] at hz1); have c1_0 := fun o => hc1 (w.heap.size) o (by go_size); have d1_0 := fun o => hd1 (w.heap.size) o (by go_size); have z1_0 : w.heap.size < w1.heap.size := (by omega); clear hc1 hd1 hb1)
    | (go_at_call 27; refine (K1.out _).mono ?_; rintro e w2 ⟨rfl, hb2⟩; have hB2 := binto (by go_grown : Below w.heap.size w _) (by go_size) hb2; obtain ⟨hc2, hd2, hz2⟩ := bcell hb2; (try simp only [World.size_alloc, World.size_setCell, World.size_drew] at hz2); have c2_0 := fun o => hc2 (w.heap.size) o (by go_size); have d2_0 := fun o => hd2 (w.heap.size) o (by go_size); have z2_0 : w.heap.size < w2.heap.size := (by omega); clear hc2 hd2 hb2)
    | (go_at_call 28; refine (flowFault_calls _ _ _).mono ?_; rintro e w3 ⟨rfl, hb3⟩; have hB3 := binto (by go_grown : Below w.heap.size w _) (by go_size) hb3; obtain ⟨hc3, hd3, hz3⟩ := bcell hb3; (try simp only [World.size_alloc, World.size_setCell, World.size_drew] at hz3); have c3_0 := fun o => hc3 (w.heap.size) o (by go_size); have d3_0 := fun o => hd3 (w.heap.size) o (by go_size); have z3_0 : w.heap.size < w3.heap.size := (by omega); have c3_1 := fun o => hc3 (w2.heap.size) o (by go_size); have d3_1 := fun o => hd3 (w2.heap.size) o (by go_size); have z3_1 : w2.heap.size < w3.heap.size := (by omega); clear hc3 hd3 hb3)
    | (go_at_call 29; refine (K2.out _).mono ?_; rintro e w4 ⟨rfl, hb4⟩; have hB4 := binto (by go_grown : Below w.heap.size w _) (by go_size) hb4; obtain ⟨hc4, hd4, hz4⟩ := bcell hb4; (try simp only [World.size_alloc, World.size_setCell, World.size_drew] at hz4); have c4_0 := fun o => hc4 (w.heap.size) o (by go_size); have d4_0 := fun o => hd4 (w.heap.size) o (by go_size); have z4_0 : w.heap.size < w4.heap.size := (by omega); have c4_1 := fun o => hc4 (w2.heap.size) o (by go_size); have d4_1 := fun o => hd4 (w2.heap.size) o (by go_size); have z4_1 : w2.heap.size < w4.heap.size := (by omega); clear hc4 hd4 hb4))
  go_ret
  exact ⟨rfl, by go_grown⟩

theorem walk (w : World) (v0 v1 : Value) (h0 : ArgIs Try.prog w 38 v0) (h1 : ArgIs Try.prog w 3 v1) :
    Calls Try.prog 8 #[v0, v1] w fun e w' => e = .returned (.bool true) ∧ Below w.heap.size w w' := by
  obtain ⟨cs, rfl, hc⟩ := h0.struct_ Try.underlying38
  obtain ⟨x, rfl, _⟩ := rFlow_of_cells _ hc
  obtain ⟨n, rfl, _⟩ := h1.int_ Try.underlying3
  exact walkI _ _ n w

set_option maxRecDepth 100000 in
theorem lifted (os : Os) (started : os.Started) (H : Type) (enc : TypeId × Value → H) :
    ReturnsInHanded {} Try.checked os 8 .any (Rows.flowSpendsSpec.pre6 enc Try.prog Try.f8 Rows.flowSpendsRow.domain false) (Rows.flowSpendsSpec.post enc Try.prog Try.f8 false true false false) :=
  law_lifted (C := Try.checked) (s := Rows.flowSpendsSpec) (by kernel_rfl) started (by kernel_rfl) Try.func8
    (ChangeSpec.witness6 (enc := enc) (C := Try.checked) false ⟨#[], #[.agg #[.int .i64 0, .int .i64 0], .int .i64 0], []⟩ 8 (by kernel_rfl) (by kernel_rfl) (by kernel_rfl) (by kernel_rfl))
    (by kernel_rfl) rfl (fun ds hd => by
      match ds, hd with
      | [_, _], _ => rfl) rfl Try.underlying4 (by kernel_rfl)
    (fun W args h => by
      rw [Try.params8] at h
      obtain ⟨v0, l0, e0, h0, r0⟩ := h
      obtain ⟨v1, l1, e1, h1, r1⟩ := r0
      have r1' : l1 = [] := r1
      obtain rfl : args = #[v0, v1] := by
        apply Array.toList_inj.1
        rw [e0, e1, r1']
      exact walk W v0 v1 h0 h1)

theorem over : Rows.flowSpendsRow.holds Try.pinned (OpenSpec.ofChange Rows.flowSpendsSpec) :=
  OpenClaim.holds_of_wide 8 Try.f8 rfl rfl rfl rfl rfl rfl rfl ⟨rfl, rfl, rfl, rfl, rfl⟩ rfl rfl rfl rfl rfl (by kernel_rfl) Try.func8 (by kernel_rfl)
    (of_decide_eq_true (by kernel_rfl)) (by unfold Func.isWrapper; first | (rw [if_pos (by decide +kernel)]; kernel_rfl) | (rw [if_neg (by decide +kernel)]; exact ⟨rfl, rfl⟩))
    (fun os started H enc _ => lifted os started H enc)

theorem proved : Rows.FlowSpendsSaid := over
#print axioms proved

end Go.Proofs.Ytmfpfpllipogiaa.flowSpends
