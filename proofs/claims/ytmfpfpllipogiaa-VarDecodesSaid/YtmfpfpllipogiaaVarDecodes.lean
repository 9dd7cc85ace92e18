/-
  VarDecodes: varint.Decode answers what P1.3 says, at every argument. No condition.
-/
import Derived.Test.YtmfpfpllipogiaaVar
set_option linter.unusedSimpArgs false
set_option linter.unusedVariables false
namespace Go.Proofs.Ytmfpfpllipogiaa.varDecodes
open Go.ChangeShapes Go.WideShapes Go.ChangeAt Go.RowKit

set_option maxHeartbeats 400000 in
theorem walkI (S : Foot) (v : Value) (l : List UInt8) (w : World) (h : RBytes S w [v] l) : Calls Try.prog 5 #[v] w fun e w' => e = .returned (.bool true) ∧ Below w.heap.size w w' := by
  have hcv : (convert 27 9 v).run Try.prog w = .ok (.string (strOf l)) w := run_string_of Try.underlying27 Try.underlying5 Try.underlying9 h
  have k1 := varDecode_calls S v l w h
  have k2 := varOf_calls (strOf l) w (by
    obtain ⟨A, c, _, h1, h2, _⟩ := h.at_
    rw [strOf_size]
    omega)
  rw [strOf_list] at k2
  obtain ⟨x, y, z⟩ := varDec l
  unfold eVar at k1 k2
  have K1 := Lib.hid k1
  have K2 := Lib.hid k2
  clear k1 k2 h
  go_enter Try.func5, Try.ntmps5
  go_wp2_with (first
    | (go_at_call 19; refine (K1.out).mono ?_; rintro e _ ⟨rfl, rfl⟩)
    | (go_at_call 20; refine (K2.out).mono ?_; rintro e w2 ⟨rfl, hb2⟩; have hB2 := binto (by go_grown : Below w.heap.size w _) (by go_size) hb2; obtain ⟨hc2, hd2, hz2⟩ := bcell hb2; (try simp only [World.size_alloc, World.size_setCell, World.size_drew] at hz2); clear hc2 hd2 hb2))
  go_ret
  exact ⟨rfl, by go_grown⟩

theorem walk (w : World) (v0 : Value) (h0 : ArgIs Try.prog w 27 v0) :
    Calls Try.prog 5 #[v0] w fun e w' => e = .returned (.bool true) ∧ Below w.heap.size w w' := by
  obtain ⟨a, n, c, rfl, hc⟩ := h0.slice_ Try.underlying27
  obtain ⟨l, hl⟩ := rslice_of_cells (R := RByte) (size := 1) (bytes := 1) Try.underlying27 (by kernel_rfl) (by kernel_rfl) (by decide) (fun es h => rbyte_of_cells Try.underlying5 es h) hc
  exact walkI _ _ l w hl

set_option maxRecDepth 100000 in
theorem lifted (os : Os) (started : os.Started) (H : Type) (enc : TypeId × Value → H) :
    ReturnsInHanded {} Try.checked os 5 .any (Rows.varDecodesSpec.pre6 enc Try.prog Try.f5 Rows.varDecodesRow.domain false) (Rows.varDecodesSpec.post enc Try.prog Try.f5 false true false false) :=
  law_lifted (C := Try.checked) (s := Rows.varDecodesSpec) (by kernel_rfl) started (by kernel_rfl) Try.func5
    (ChangeSpec.witness6 (enc := enc) (C := Try.checked) false ⟨#[], #[.slice none 0 0], []⟩ 8 (by kernel_rfl) (by kernel_rfl) (by kernel_rfl) (by kernel_rfl))
    (by kernel_rfl) rfl (fun ds hd => by
      match ds, hd with
      | [_], _ => rfl) rfl Try.underlying4 (by kernel_rfl)
    (fun W args h => by
      rw [Try.params5] at h
      obtain ⟨v0, l0, e0, h0, r0⟩ := h
      have r0' : l0 = [] := r0
      obtain rfl : args = #[v0] := by
        apply Array.toList_inj.1
        rw [e0, r0']
      exact walk W v0 h0)

theorem over : Rows.varDecodesRow.holds Try.pinned (OpenSpec.ofChange Rows.varDecodesSpec) :=
  OpenClaim.holds_of_wide 5 Try.f5 rfl rfl rfl rfl rfl rfl rfl ⟨rfl, rfl, rfl, rfl, rfl⟩ rfl rfl rfl rfl rfl (by kernel_rfl) Try.func5 (by kernel_rfl)
    (of_decide_eq_true (by kernel_rfl)) (by unfold Func.isWrapper; first | (rw [if_pos (by decide +kernel)]; kernel_rfl) | (rw [if_neg (by decide +kernel)]; exact ⟨rfl, rfl⟩))
    (fun os started H enc _ => lifted os started H enc)

theorem proved : Rows.VarDecodesSaid := over
#print axioms proved

end Go.Proofs.Ytmfpfpllipogiaa.varDecodes
