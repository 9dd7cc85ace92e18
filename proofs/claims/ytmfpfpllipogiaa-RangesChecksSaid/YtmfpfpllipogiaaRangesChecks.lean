/-
  RangesChecks: ranges.Check and ranges.Has answer what P3.1 and P3.5 say, at every argument. No condition.
-/
import Derived.Test.YtmfpfpllipogiaaHas
set_option linter.unusedSimpArgs false
set_option linter.unusedVariables false
namespace Go.Proofs.Ytmfpfpllipogiaa.rangesChecks
open Go.ChangeShapes Go.WideShapes Go.ChangeAt Go.RowKit

theorem hasE_form (l : List DRange) (n : Int) : ∃ x y, hasE l n = .returned (.tuple #[.bool x, .int .i64 y]) := by
  unfold hasE
  split <;> exact ⟨_, _, rfl⟩

set_option maxHeartbeats 400000 in
theorem walkI (S : Foot) (v : Value) (l : List DRange) (n : Int) (w : World) (hS : ∀ b, S b → b < w.heap.size) (h : RRanges S w [v] l) (hn : n ≤ 9223372036854775807) : Calls Try.prog 9 #[v, .int .i64 n] w fun e w' => e = .returned (.bool true) ∧ Below w.heap.size w w' := by
  have hk := fun W (hb : Below w.heap.size w W) => (RSlice.keeps RRange.keeps S S w W _ l (fun _ h => h) (fun b hb' => hb.block b (hS b hb')) h : RRanges S W [v] l)
  have hs := fun W (hb : Below w.heap.size w W) b (h : S b) => (by have := hS b h; have := hb.size; omega : b < W.heap.size)
  have k1 := fun W (hb : Below w.heap.size w W) => rangesCheck_calls S v l W (hs W hb) (hk W hb)
  have k2 := fun W (hb : Below w.heap.size w W) => rangesHas_calls S v l n W (hs W hb) (hk W hb)
  have k3 := fun W (hb : Below w.heap.size w W) => refFault_calls S v l W (hs W hb) (hk W hb)
  have k4 := fun W (hb : Below w.heap.size w W) => rangeHas_calls S v l n W (hs W hb) (hk W hb) hn
  obtain ⟨x, y, hE⟩ := hasE_form l n
  rw [hE] at k2 k4
  generalize rangesFault l = z at k1 k3
  have K1 := Lib.hid k1
  have K2 := Lib.hid k2
  have K3 := Lib.hid k3
  have K4 := Lib.hid k4
  clear k1 k2 k3 k4 h hE hS hk hs
  go_enter Try.func9, Try.ntmps9
  go_wp2_with (first
    | (go_at_call 30; refine (K1.out _ (Below.refl _ _)).mono ?_; rintro e w1 ⟨rfl, hb1⟩; have hB1 := binto (by go_grown : Below w.heap.size w _) (by go_size) hb1; obtain ⟨hc1, hd1, hz1⟩ := bcell hb1; (try simp only [World.size_alloc, World.size_setCell, World.size_drew] at hz1); have hk1 := Lib.hid hb1.block; clear hc1 hd1 hb1)
    | (go_at_call 31; refine (K2.out _ hB1).mono ?_; rintro e w2 ⟨rfl, hb2⟩; have hB2 := binto (by go_grown : Below w.heap.size w _) (by go_size) hb2; obtain ⟨hc2, hd2, hz2⟩ := bcell hb2; (try simp only [World.size_alloc, World.size_setCell, World.size_drew] at hz2); have hk2 := Lib.hid hb2.block; clear hc2 hd2 hb2)
    | (go_at_call 32; refine (K3.out _ (by go_grown)).mono ?_; rintro e w3 ⟨rfl, hb3⟩; have hB3 := binto (by go_grown : Below w.heap.size w _) (by go_size) hb3; obtain ⟨hc3, hd3, hz3⟩ := bcell hb3; (try simp only [World.size_alloc, World.size_setCell, World.size_drew] at hz3); have hk3 := Lib.hid hb3.block; clear hc3 hd3 hb3)
    | (go_at_call 33; refine (K4.out _ (by go_grown)).mono ?_; rintro e w4 ⟨rfl, hb4⟩; have hB4 := binto (by go_grown : Below w.heap.size w _) (by go_size) hb4; obtain ⟨hc4, hd4, hz4⟩ := bcell hb4; (try simp only [World.size_alloc, World.size_setCell, World.size_drew] at hz4); have hk4 := Lib.hid hb4.block; clear hc4 hd4 hb4))
  go_ret
  exact ⟨rfl, by go_grown⟩

theorem walk (w : World) (v0 v1 : Value) (h0 : ArgIs Try.prog w 43 v0) (h1 : ArgIs Try.prog w 3 v1) :
    Calls Try.prog 9 #[v0, v1] w fun e w' => e = .returned (.bool true) ∧ Below w.heap.size w w' := by
  obtain ⟨a, m, c, rfl, hc⟩ := h0.slice_ Try.underlying43
  obtain ⟨n, rfl, hn⟩ := h1.int_ Try.underlying3
  obtain ⟨l, hl, _⟩ := rslice_of_cells (R := RRange) (size := 2) (bytes := 16) Try.underlying43 (by kernel_rfl) (by kernel_rfl) (by decide) (fun es h => rRange_of_cells es h) hc
  exact walkI _ _ l n w (fun _ h => h) hl (i64_of_wf hn).2

set_option maxRecDepth 100000 in
theorem lifted (os : Os) (started : os.Started) (H : Type) (enc : TypeId × Value → H) :
    ReturnsInHanded {} Try.checked os 9 .any (Rows.rangesChecksSpec.pre6 enc Try.prog Try.f9 Rows.rangesChecksRow.domain false) (Rows.rangesChecksSpec.post enc Try.prog Try.f9 false true false false) :=
  law_lifted (C := Try.checked) (s := Rows.rangesChecksSpec) (by kernel_rfl) started (by kernel_rfl) Try.func9
    (ChangeSpec.witness6 (enc := enc) (C := Try.checked) false ⟨#[], #[.slice none 0 0, .int .i64 0], []⟩ 8 (by kernel_rfl) (by kernel_rfl) (by kernel_rfl) (by kernel_rfl))
    (by kernel_rfl) rfl (fun ds hd => by
      match ds, hd with
      | [_, _], _ => rfl) rfl Try.underlying4 (by kernel_rfl)
    (fun W args h => by
      rw [Try.params9] at h
      obtain ⟨v0, l0, e0, h0, r0⟩ := h
      obtain ⟨v1, l1, e1, h1, r1⟩ := r0
      have r1' : l1 = [] := r1
      obtain rfl : args = #[v0, v1] := by
        apply Array.toList_inj.1
        rw [e0, e1, r1']
      exact walk W v0 v1 h0 h1)

theorem over : Rows.rangesChecksRow.holds Try.pinned (OpenSpec.ofChange Rows.rangesChecksSpec) :=
  OpenClaim.holds_of_wide 9 Try.f9 rfl rfl rfl rfl rfl rfl rfl ⟨rfl, rfl, rfl, rfl, rfl⟩ rfl rfl rfl rfl rfl (by kernel_rfl) Try.func9 (by kernel_rfl)
    (of_decide_eq_true (by kernel_rfl)) (by unfold Func.isWrapper; first | (rw [if_pos (by decide +kernel)]; kernel_rfl) | (rw [if_neg (by decide +kernel)]; exact ⟨rfl, rfl⟩))
    (fun os started H enc _ => lifted os started H enc)

theorem proved : Rows.RangesChecksSaid := over
#print axioms proved

end Go.Proofs.Ytmfpfpllipogiaa.rangesChecks
