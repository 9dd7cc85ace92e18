/-
  GateKeys: gate.First, Session, Way and Word answer what P19.1 says, at every argument. No condition.
-/
import Derived.Test.YtmfpfpllipogiaaGate
set_option linter.unusedSimpArgs false
set_option linter.unusedVariables false
namespace Go.Proofs.Ytmfpfpllipogiaa.gateKeys
open Go.ChangeShapes Go.WideShapes Go.ChangeAt Go.RowKit

set_option maxHeartbeats 1000000 in
theorem walkI (S : Foot) (v : Value) (l : List UInt8) (n key : Int) (up : Bool) (w : World) (hS : ∀ b, S b → b < w.heap.size) (h : RBytes S w [v] l) : Calls Try.prog 13 #[.int .i64 n, .int .u64 key, v, .bool up] w fun e w' => e = .returned (.bool true) ∧ Below w.heap.size w w' := by
  have hk := fun W (hb : Below w.heap.size w W) => (RBytes.keeps S S w W _ l (fun _ h => h) (fun b hb' => hb.block b (hS b hb')) h : RBytes S W [v] l)
  have k1 := fun W (hb : Below w.heap.size w W) => word_calls S v l W (hk W hb)
  have k2 := fun W (hb : Below w.heap.size w W) => wordOf_calls S v l W (hk W hb)
  have k3 := first_calls n
  have k4 := firstKey_calls n
  have k5 := session_calls key (IntKind.u64.wrap n)
  have k6 := sessionKey_calls key (IntKind.u64.wrap n)
  have k7 := way_calls key up
  have k8 := wayKey_calls key up
  generalize wordI l = x1 at *
  generalize keyI 1 n = x2 at *
  generalize sessionI key (IntKind.u64.wrap n) = x3 at *
  generalize wayI key up = x4 at *
  have K1 := Lib.hid k1
  have K2 := Lib.hid k2
  have K3 := Lib.hid k3
  have K4 := Lib.hid k4
  have K5 := Lib.hid k5
  have K6 := Lib.hid k6
  have K7 := Lib.hid k7
  have K8 := Lib.hid k8
  clear k1 k2 k3 k4 k5 k6 k7 k8 h hS hk
  go_enter Try.func13, Try.ntmps13
  go_wp2_with (first
    | (go_at_call 42; refine (K3.out _).mono ?_; rintro e _ ⟨rfl, rfl⟩)
    | (go_at_call 43; refine (K5.out _).mono ?_; rintro e _ ⟨rfl, rfl⟩)
    | (go_at_call 44; refine (K7.out _).mono ?_; rintro e _ ⟨rfl, rfl⟩)
    | (go_at_call 45; refine (K1.out _ (by first | exact Below.refl _ _ | go_grown)).mono ?_; rintro e _ ⟨rfl, rfl⟩)
    | (go_at_call 46; refine (K4.out _).mono ?_; rintro e w1 ⟨rfl, hb1⟩; have hB1 := binto (by go_grown : Below w.heap.size w _) (by go_size) hb1; obtain ⟨hc1, hd1, hz1⟩ := bcell hb1; (try simp only [World.size_alloc, World.size_setCell, World.size_drew] at hz1); have hk1 := Lib.hid hb1.block; clear hc1 hd1 hb1)
    | (go_at_call 47; refine (K6.out _).mono ?_; rintro e w2 ⟨rfl, hb2⟩; have hB2 := binto (by go_grown : Below w.heap.size w _) (by go_size) hb2; obtain ⟨hc2, hd2, hz2⟩ := bcell hb2; (try simp only [World.size_alloc, World.size_setCell, World.size_drew] at hz2); have hk2 := Lib.hid hb2.block; clear hc2 hd2 hb2)
    | (go_at_call 48; refine (K8.out _).mono ?_; rintro e w3 ⟨rfl, hb3⟩; have hB3 := binto (by go_grown : Below w.heap.size w _) (by go_size) hb3; obtain ⟨hc3, hd3, hz3⟩ := bcell hb3; (try simp only [World.size_alloc, World.size_setCell, World.size_drew] at hz3); have hk3 := Lib.hid hb3.block; clear hc3 hd3 hb3)
    | (go_at_call 49; refine (K2.out _ (by go_grown)).mono ?_; rintro e _ ⟨rfl, rfl⟩))
  go_ret
  exact ⟨rfl, by go_grown⟩

theorem walk (w : World) (v0 v1 v2 v3 : Value) (h0 : ArgIs Try.prog w 3 v0) (h1 : ArgIs Try.prog w 23 v1) (h2 : ArgIs Try.prog w 27 v2) (h3 : ArgIs Try.prog w 4 v3) :
    Calls Try.prog 13 #[v0, v1, v2, v3] w fun e w' => e = .returned (.bool true) ∧ Below w.heap.size w w' := by
  obtain ⟨n, rfl, _⟩ := h0.int_ Try.underlying3
  obtain ⟨key, rfl, _⟩ := h1.int_ Try.underlying23
  obtain ⟨a, m, c, rfl, hc⟩ := h2.slice_ Try.underlying27
  obtain ⟨up, rfl⟩ := h3.bool_ Try.underlying4
  obtain ⟨l, hl, _⟩ := rslice_of_cells (R := RByte) (size := 1) (bytes := 1) Try.underlying27 (by kernel_rfl) (by kernel_rfl) (by decide) (fun es h => rbyte_of_cells Try.underlying5 es h) hc
  exact walkI _ _ l n key up w (fun _ h => h) hl

set_option maxRecDepth 100000 in
theorem lifted (os : Os) (started : os.Started) (H : Type) (enc : TypeId × Value → H) :
    ReturnsInHanded {} Try.checked os 13 .any (Rows.gateKeysSpec.pre6 enc Try.prog Try.f13 Rows.gateKeysRow.domain false) (Rows.gateKeysSpec.post enc Try.prog Try.f13 false true false false) :=
  law_lifted (C := Try.checked) (s := Rows.gateKeysSpec) (by kernel_rfl) started (by kernel_rfl) Try.func13
    (ChangeSpec.witness6 (enc := enc) (C := Try.checked) false ⟨#[], #[.int .i64 0, .int .u64 0, .slice none 0 0, .bool false], []⟩ 8 (by kernel_rfl) (by kernel_rfl) (by kernel_rfl) (by kernel_rfl))
    (by kernel_rfl) rfl (fun ds hd => by
      match ds, hd with
      | [_, _, _, _], _ => rfl) rfl Try.underlying4 (by kernel_rfl)
    (fun W args h => by
      rw [Try.params13] at h
      obtain ⟨v0, l0, e0, h0, r0⟩ := h
      obtain ⟨v1, l1, e1, h1, r1⟩ := r0
      obtain ⟨v2, l2, e2, h2, r2⟩ := r1
      obtain ⟨v3, l3, e3, h3, r3⟩ := r2
      have r3' : l3 = [] := r3
      obtain rfl : args = #[v0, v1, v2, v3] := by
        apply Array.toList_inj.1
        rw [e0, e1, e2, e3, r3']
      exact walk W v0 v1 v2 v3 h0 h1 h2 h3)

theorem over : Rows.gateKeysRow.holds Try.pinned (OpenSpec.ofChange Rows.gateKeysSpec) :=
  OpenClaim.holds_of_wide 13 Try.f13 rfl rfl rfl rfl rfl rfl rfl ⟨rfl, rfl, rfl, rfl, rfl⟩ rfl rfl rfl rfl rfl (by kernel_rfl) Try.func13 (by kernel_rfl)
    (of_decide_eq_true (by kernel_rfl)) (by unfold Func.isWrapper; first | (rw [if_pos (by decide +kernel)]; kernel_rfl) | (rw [if_neg (by decide +kernel)]; exact ⟨rfl, rfl⟩))
    (fun os started H enc _ => lifted os started H enc)

theorem proved : Rows.GateKeysSaid := over
#print axioms proved

end Go.Proofs.Ytmfpfpllipogiaa.gateKeys
