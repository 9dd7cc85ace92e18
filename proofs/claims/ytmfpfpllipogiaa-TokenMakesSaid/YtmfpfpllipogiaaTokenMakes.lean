/-
  TokenMakes: token.Make answers what P7.1 says, at every argument. No condition.
-/
import Derived.Test.YtmfpfpllipogiaaToken
set_option linter.unusedSimpArgs false
set_option linter.unusedVariables false
namespace Go.Proofs.Ytmfpfpllipogiaa.tokenMakes
open Go.ChangeShapes Go.WideShapes Go.ChangeAt Go.RowKit

set_option maxHeartbeats 400000 in
theorem walkI (s a t : Int) (w : World) : Calls Try.prog 10 #[.int .u64 s, .int .i64 a, .int .i64 t] w fun e w' => e = .returned (.bool true) ∧ Below w.heap.size w w' := by
  have k1 := tokenMake_calls s a t
  have k2 := tokenOf_calls s a t
  unfold Tok at k1 k2
  generalize tokenL s a t = L at *
  generalize tokenE t = E at *
  have K1 := Lib.hid k1
  have K2 := Lib.hid k2
  clear k1 k2
  go_enter Try.func10, Try.ntmps10
  go_wp2_with (first
    | (go_at_call 34; refine (K1.out _).mono ?_; rintro e w1 ⟨v1, rfl, hv1, hb1⟩; have hB1 := binto (by go_grown : Below w.heap.size w _) (by go_size) hb1; obtain ⟨hc1, hd1, hz1⟩ := bcell hb1; (try simp only [World.size_alloc, World.size_setCell, World.size_drew] at hz1); have hk1 := Lib.hid hb1.block; clear hc1 hd1 hb1)
    | (go_at_call 35; refine (K2.out _).mono ?_; rintro e w2 ⟨v2, rfl, hv2, hb2⟩; have hB2 := binto (by go_grown : Below w.heap.size w _) (by go_size) hb2; obtain ⟨hc2, hd2, hz2⟩ := bcell hb2; (try simp only [World.size_alloc, World.size_setCell, World.size_drew] at hz2); have hk2 := Lib.hid hb2.block; clear hc2 hd2 hb2)
    | (go_at_call 23; refine (sameBytes_calls (S := fun b => b < w1.heap.size) (RBytes.keeps _ _ _ _ _ _ (fun b hb => hb.2) (fun b hb => hk2.out b hb.2) hv1) hv2).mono ?_; rintro e _ ⟨rfl, rfl⟩))
  go_ret
  exact ⟨rfl, by go_grown⟩

theorem walk (w : World) (v0 v1 v2 : Value) (h0 : ArgIs Try.prog w 23 v0) (h1 : ArgIs Try.prog w 3 v1) (h2 : ArgIs Try.prog w 3 v2) :
    Calls Try.prog 10 #[v0, v1, v2] w fun e w' => e = .returned (.bool true) ∧ Below w.heap.size w w' := by
  obtain ⟨s, rfl, _⟩ := h0.int_ Try.underlying23
  obtain ⟨a, rfl, _⟩ := h1.int_ Try.underlying3
  obtain ⟨t, rfl, _⟩ := h2.int_ Try.underlying3
  exact walkI s a t w

set_option maxRecDepth 100000 in
theorem lifted (os : Os) (started : os.Started) (H : Type) (enc : TypeId × Value → H) :
    ReturnsInHanded {} Try.checked os 10 .any (Rows.tokenMakesSpec.pre6 enc Try.prog Try.f10 Rows.tokenMakesRow.domain false) (Rows.tokenMakesSpec.post enc Try.prog Try.f10 false true false false) :=
  law_lifted (C := Try.checked) (s := Rows.tokenMakesSpec) (by kernel_rfl) started (by kernel_rfl) Try.func10
    (ChangeSpec.witness6 (enc := enc) (C := Try.checked) false ⟨#[], #[.int .u64 0, .int .i64 0, .int .i64 0], []⟩ 8 (by kernel_rfl) (by kernel_rfl) (by kernel_rfl) (by kernel_rfl))
    (by kernel_rfl) rfl (fun ds hd => by
      match ds, hd with
      | [_, _, _], _ => rfl) rfl Try.underlying4 (by kernel_rfl)
    (fun W args h => by
      rw [Try.params10] at h
      obtain ⟨v0, l0, e0, h0, r0⟩ := h
      obtain ⟨v1, l1, e1, h1, r1⟩ := r0
      obtain ⟨v2, l2, e2, h2, r2⟩ := r1
      have r2' : l2 = [] := r2
      obtain rfl : args = #[v0, v1, v2] := by
        apply Array.toList_inj.1
        rw [e0, e1, e2, r2']
      exact walk W v0 v1 v2 h0 h1 h2)

theorem over : Rows.tokenMakesRow.holds Try.pinned (OpenSpec.ofChange Rows.tokenMakesSpec) :=
  OpenClaim.holds_of_wide 10 Try.f10 rfl rfl rfl rfl rfl rfl rfl ⟨rfl, rfl, rfl, rfl, rfl⟩ rfl rfl rfl rfl rfl (by kernel_rfl) Try.func10 (by kernel_rfl)
    (of_decide_eq_true (by kernel_rfl)) (by unfold Func.isWrapper; first | (rw [if_pos (by decide +kernel)]; kernel_rfl) | (rw [if_neg (by decide +kernel)]; exact ⟨rfl, rfl⟩))
    (fun os started H enc _ => lifted os started H enc)

theorem proved : Rows.TokenMakesSaid := over
#print axioms proved

end Go.Proofs.Ytmfpfpllipogiaa.tokenMakes
