/-
  PacknoWholes: packno.Whole answers what P2.2 says, at every argument. No condition.
-/
import Derived.Test.YtmfpfpllipogiaaWhole
set_option linter.unusedSimpArgs false
set_option linter.unusedVariables false
namespace Go.Proofs.Ytmfpfpllipogiaa.packnoWholes
open Go.ChangeShapes Go.WideShapes Go.ChangeAt Go.RowKit

theorem wholeE_form (T : Int) (l : List UInt8) : ∃ x y, wholeE T l = .returned (.tuple #[.int .i64 x, .int .i64 y]) := by
  unfold wholeE
  split
  · exact ⟨_, _, rfl⟩
  · split <;> exact ⟨_, _, rfl⟩

set_option maxHeartbeats 400000 in
theorem walkI (S : Foot) (v : Value) (l : List UInt8) (T : Int) (w : World) (hS : ∀ b, S b → b < w.heap.size) (h : RBytes S w [v] l) : Calls Try.prog 12 #[.int .i64 T, v] w fun e w' => e = .returned (.bool true) ∧ Below w.heap.size w w' := by
  have k1 := whole_calls S v l T w h
  have k2 := fun W (hb : Below w.heap.size w W) => wholeNumber_calls S v l T W (RBytes.keeps _ _ _ _ _ _ (fun _ hb => hb) (fun b hb' => hb.block b (hS b hb')) h)
  obtain ⟨x, y, hE⟩ := wholeE_form T l
  rw [hE] at k1 k2
  have K1 := Lib.hid k1
  have K2 := Lib.hid k2
  clear k1 k2 h hE hS
  go_enter Try.func12, Try.ntmps12
  go_wp2_with (first
    | (go_at_call 40; refine (K1.out).mono ?_; rintro e w1 ⟨rfl, hb1⟩; have hB1 := binto (by go_grown : Below w.heap.size w _) (by go_size) hb1; obtain ⟨hc1, hd1, hz1⟩ := bcell hb1; (try simp only [World.size_alloc, World.size_setCell, World.size_drew] at hz1); have hk1 := Lib.hid hb1.block; clear hc1 hd1 hb1)
    | (go_at_call 41; refine (K2.out _ hB1).mono ?_; rintro e w2 ⟨rfl, hb2⟩; have hB2 := binto (by go_grown : Below w.heap.size w _) (by go_size) hb2; obtain ⟨hc2, hd2, hz2⟩ := bcell hb2; (try simp only [World.size_alloc, World.size_setCell, World.size_drew] at hz2); have hk2 := Lib.hid hb2.block; clear hc2 hd2 hb2))
  go_ret
  exact ⟨rfl, by go_grown⟩

theorem walk (w : World) (v0 v1 : Value) (h0 : ArgIs Try.prog w 3 v0) (h1 : ArgIs Try.prog w 27 v1) :
    Calls Try.prog 12 #[v0, v1] w fun e w' => e = .returned (.bool true) ∧ Below w.heap.size w w' := by
  obtain ⟨n, rfl, _⟩ := h0.int_ Try.underlying3
  obtain ⟨a, m, c, rfl, hc⟩ := h1.slice_ Try.underlying27
  obtain ⟨l, hl, _⟩ := rslice_of_cells (R := RByte) (size := 1) (bytes := 1) Try.underlying27 (by kernel_rfl) (by kernel_rfl) (by decide) (fun es h => rbyte_of_cells Try.underlying5 es h) hc
  exact walkI _ _ l n w (fun _ h => h) hl

set_option maxRecDepth 100000 in
theorem lifted (os : Os) (started : os.Started) (H : Type) (enc : TypeId × Value → H) :
    ReturnsInHanded {} Try.checked os 12 .any (Rows.packnoWholesSpec.pre6 enc Try.prog Try.f12 Rows.packnoWholesRow.domain false) (Rows.packnoWholesSpec.post enc Try.prog Try.f12 false true false false) :=
  law_lifted (C := Try.checked) (s := Rows.packnoWholesSpec) (by kernel_rfl) started (by kernel_rfl) Try.func12
    (ChangeSpec.witness6 (enc := enc) (C := Try.checked) false ⟨#[], #[.int .i64 0, .slice none 0 0], []⟩ 8 (by kernel_rfl) (by kernel_rfl) (by kernel_rfl) (by kernel_rfl))
    (by kernel_rfl) rfl (fun ds hd => by
      match ds, hd with
      | [_, _], _ => rfl) rfl Try.underlying4 (by kernel_rfl)
    (fun W args h => by
      rw [Try.params12] at h
      obtain ⟨v0, l0, e0, h0, r0⟩ := h
      obtain ⟨v1, l1, e1, h1, r1⟩ := r0
      have r1' : l1 = [] := r1
      obtain rfl : args = #[v0, v1] := by
        apply Array.toList_inj.1
        rw [e0, e1, r1']
      exact walk W v0 v1 h0 h1)

theorem over : Rows.packnoWholesRow.holds Try.pinned (OpenSpec.ofChange Rows.packnoWholesSpec) :=
  OpenClaim.holds_of_wide 12 Try.f12 rfl rfl rfl rfl rfl rfl rfl ⟨rfl, rfl, rfl, rfl, rfl⟩ rfl rfl rfl rfl rfl (by kernel_rfl) Try.func12 (by kernel_rfl)
    (of_decide_eq_true (by kernel_rfl)) (by unfold Func.isWrapper; first | (rw [if_pos (by decide +kernel)]; kernel_rfl) | (rw [if_neg (by decide +kernel)]; exact ⟨rfl, rfl⟩))
    (fun os started H enc _ => lifted os started H enc)

theorem proved : Rows.PacknoWholesSaid := over
#print axioms proved

end Go.Proofs.Ytmfpfpllipogiaa.packnoWholes
