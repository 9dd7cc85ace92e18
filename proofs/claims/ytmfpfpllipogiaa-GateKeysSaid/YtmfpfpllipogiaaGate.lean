/-
  gate.First, Session, Way, Word and the reference's. No condition.
-/
import Derived.Test.YtmfpfpllipogiaaLock
import Derived.Test.YtmfpfpllipogiaaVar
set_option linter.unusedSimpArgs false
set_option linter.unusedVariables false
namespace Go.Proofs.Ytmfpfpllipogiaa
open Go.RowKit

/-- a slice cut short -/
theorem RSlice.take {α : Type} {size bytes : Nat} {R : Foot → World → List Value → α → Prop} {S : Foot} {w : World} {A : Option Addr} {n c : Nat} {l : List α}
    (h : RSlice size bytes R S w [.slice A n c] l) (k : Nat) (hk : k ≤ n) : RSlice size bytes R S w [.slice A k c] (l.take k) := by
  obtain ⟨A', c', hv, hl, hm, hb, he⟩ := h
  injection hv with hv _
  injection hv with h1 h2 h3
  subst h1 h2 h3
  have e : (l.take k).length = k := by rw [List.length_take]; omega
  have hmul : k * bytes ≤ l.length * bytes := Nat.mul_le_mul_right _ hk
  refine ⟨_, _, by rw [e], by omega, hm, by rw [e]; omega, fun i hi => ?_⟩
  obtain ⟨b, off, es, g1, g2, g3, g4, g5⟩ := he i (by omega)
  exact ⟨b, off, es, g1, g2, g3, g4, by rw [List.getElem_take]; exact g5⟩

theorem ofInt_nat64 (n : Nat) (hn : n < 18446744073709551616) : (BitVec.ofInt 64 (n : Int)).toNat = n := by
  rw [BitVec.ofInt_natCast, BitVec.toNat_ofNat]
  exact Nat.mod_eq_of_lt (by omega)
theorem or_join64 (a c : Nat) (hc : c < 256) (ha : a * 256 + c < 18446744073709551616) : bits .or .u64 ((a : Int) * 256) (c : Int) = ((a * 256 + c : Nat) : Int) := by
  have e1 : (BitVec.ofInt 64 ((a : Int) * 256)).toNat = a * 256 := by
    have e : (a : Int) * 256 = ((a * 256 : Nat) : Int) := by omega
    rw [e]
    exact ofInt_nat64 (a * 256) (Nat.lt_of_le_of_lt (Nat.le_add_right _ _) ha)
  have e2 : (BitVec.ofInt 64 (c : Int)).toNat = c := ofInt_nat64 _ (by omega)
  have e3 : IntKind.u64.wrap ((a * 256 + c : Nat) : Int) = ((a * 256 + c : Nat) : Int) := by rw [IntKind.wrap_u64]; omega
  have hx : a * 256 ||| c = a * 256 + c := by
    have h8 : (256 : Nat) = 2 ^ 8 := by decide
    rw [h8] at hc ⊢
    rw [Nat.mul_comm, Nat.two_pow_add_eq_or_of_lt hc]
  show IntKind.u64.wrap ((BitVec.ofInt 64 ((a : Int) * 256) ||| BitVec.ofInt 64 (c : Int)).toNat : Int) = _
  rw [BitVec.toNat_or, e1, e2, hx, e3]

def sessionI (c s : Int) : Int := mix (bits .xor .u64 c (mix s))
def wayI (k : Int) : Bool → Int
  | true => mix k
  | false => mix (bits .xor .u64 IntKind.u64.max k)
theorem wayI_t (k : Int) : wayI k true = mix k := by simp only [wayI]
theorem wayI_f (k : Int) : wayI k false = mix (bits .xor .u64 IntKind.u64.max k) := by simp only [wayI]
def wordI (l : List UInt8) : Int := (beU l (min l.length 8) : Nat)

theorem beU_step2 (l : List UInt8) (k : Nat) (h : k < 8) : bits .or .u64 (IntKind.u64.wrap ((beU l k : Int) * 256)) (byteAt l k : Int) = ((beU l (k + 1) : Nat) : Int) := by
  have h1 := beU_small l k (by omega)
  have h2 := byteAt_lt l k
  have h3 : (256 : Nat) ^ (k + 1) ≤ 256 ^ 8 := Nat.pow_le_pow_right (by decide) h
  have h4 : (256 : Nat) ^ 8 = 18446744073709551616 := by decide
  rw [Nat.pow_succ] at h3
  have h5 : beU l k * 256 + byteAt l k < 18446744073709551616 := by omega
  have e : IntKind.u64.wrap ((beU l k : Int) * 256) = (beU l k : Int) * 256 := by rw [IntKind.wrap_u64]; omega
  rw [e, or_join64 _ _ h2 h5, beU_succ l k h]

set_option maxHeartbeats 400000 in
theorem first_calls (n : Int) (w : World) : Calls Try.prog 42 #[.int .i64 n] w fun e w' => e = .returned (.int .u64 (keyI 1 n)) ∧ w = w' := by
  go_enter Try.func42, Try.ntmps42
  go_wp2_with (go_at_call 16; refine (Key_calls _ _ _).mono ?_; rintro e _ ⟨rfl, rfl⟩)
  go_ret
  exact ⟨rfl, rfl⟩

set_option maxHeartbeats 400000 in
theorem session_calls (c s : Int) (w : World) : Calls Try.prog 43 #[.int .u64 c, .int .u64 s] w fun e w' => e = .returned (.int .u64 (sessionI c s)) ∧ w = w' := by
  go_enter Try.func43, Try.ntmps43
  go_wp2_with (go_at_call 15; refine (Mix_calls _ _).mono ?_; rintro e _ ⟨rfl, rfl⟩)
  go_ret
  exact ⟨rfl, rfl⟩

set_option maxHeartbeats 400000 in
theorem way_calls (k : Int) (up : Bool) (w : World) : Calls Try.prog 44 #[.int .u64 k, .bool up] w fun e w' => e = .returned (.int .u64 (wayI k up)) ∧ w = w' := by
  cases up
  · rw [wayI_f]
    go_enter Try.func44, Try.ntmps44
    go_wp2_with (go_at_call 15; refine (Mix_calls _ _).mono ?_; rintro e _ ⟨rfl, rfl⟩)
    go_ret
    generalize bits .xor .u64 IntKind.u64.max k = m
    exact ⟨rfl, rfl⟩
  · rw [wayI_t]
    go_enter Try.func44, Try.ntmps44
    go_wp2_with (go_at_call 15; refine (Mix_calls _ _).mono ?_; rintro e _ ⟨rfl, rfl⟩)
    go_ret
    exact ⟨rfl, rfl⟩

set_option maxHeartbeats 1000000 in
theorem word_calls (S : Foot) (v : Value) (l : List UInt8) (w : World) (h : RBytes S w [v] l) :
    Calls Try.prog 45 #[v] w fun e w' => e = .returned (.int .u64 (wordI l)) ∧ w = w' := by
  obtain ⟨A, c, hv, hl, hcr, hl47, he⟩ := h.at_
  injection hv with hv _
  subst hv
  have HE := Lib.hid he
  clear h he
  by_cases h8 : 8 < l.length
  · have h8I : (8 : Int) < (l.length : Int) := by omega
    have hmx : max (8 : Int) 0 = 8 := rfl
    have HW := Lib.hid (show wordI l = (beU l 8 : Nat) by unfold wordI; rw [show min l.length 8 = 8 by omega])
    by_cases hc1 : c = 1
    · omega
    · go_enter Try.func45, Try.ntmps45
      go_wp2
      go_loop [3, 12] (fun n i => ∃ k : Nat, k ≤ 8 ∧ i = .int .i64 k ∧ n = .int .u64 (beU l k : Nat)) (fun _ i => 8 - (intOf i).toNat)
      case atStart => exact ⟨0, by omega, by go_num, rfl⟩
      case round =>
        obtain ⟨k, hk, rfl, rfl⟩ := hrel
        by_cases hkk : k < 8
        · obtain ⟨b, off, rfl, hSb, hcell⟩ := HE.out (by omega)
          have c0 := hcell k (by omega)
          have hu := beU_step2 l k hkk
          have HS := Lib.hid (show beU l (k + 1) = beU l k * 256 + byteAt l k from beU_succ l k hkk)
          have hub := byteAt_lt l k
          clear hcell HE
          generalize byteAt l k = B at *
          generalize beU l k = M at *
          go_wp2
          refine ⟨⟨k + 1, by omega, by go_num, rfl⟩, by simp [intOf]; omega⟩
        · have hk8 : k = 8 := by omega
          rw [← hk8] at HW
          generalize beU l k = M at *
          have hkn : ¬ (k : Int) < 8 := by omega
          go_wp2
          go_ret
          exact ⟨by rw [HW.out]; rfl, rfl⟩
  · have h8I : (l.length : Int) ≤ 8 := by omega
    have HW := Lib.hid (show wordI l = (beU l l.length : Nat) by unfold wordI; rw [show min l.length 8 = l.length by omega])
    go_enter Try.func45, Try.ntmps45
    go_wp2
    go_loop [3, 12] (fun n i => ∃ k : Nat, k ≤ l.length ∧ i = .int .i64 k ∧ n = .int .u64 (beU l k : Nat)) (fun _ i => l.length - (intOf i).toNat)
    case atStart => exact ⟨0, by omega, by go_num, rfl⟩
    case round =>
      obtain ⟨k, hk, rfl, rfl⟩ := hrel
      by_cases hkk : k < l.length
      · obtain ⟨b, off, rfl, hSb, hcell⟩ := HE.out (by omega)
        have c0 := hcell k (by omega)
        have hu := beU_step2 l k (by omega)
        have hub := byteAt_lt l k
        clear hcell HE
        generalize byteAt l k = B at *
        generalize beU l k = M at *
        go_wp2
        refine ⟨⟨k + 1, by omega, by go_num, rfl⟩, by simp [intOf]; omega⟩
      · have hk8 : k = l.length := by omega
        rw [← hk8] at HW
        generalize beU l k = M at *
        go_wp2
        go_ret
        exact ⟨by rw [HW.out]; rfl, rfl⟩

set_option maxHeartbeats 400000 in
theorem firstKey_calls (n : Int) (w : World) : Calls Try.prog 46 #[.int .i64 n] w fun e w' => e = .returned (.int .u64 (keyI 1 n)) ∧ Below w.heap.size w w' := by
  go_enter Try.func46, Try.ntmps46
  go_wp2_with (go_at_call 18; refine (KeyOf_calls _ _ _).mono ?_; rintro e w1 ⟨rfl, hb1⟩; have hB1 := binto (by go_grown : Below w.heap.size w _) (by go_size) hb1; obtain ⟨hc1, hd1, hz1⟩ := bcell hb1; (try simp only [World.size_alloc, World.size_setCell, World.size_drew] at hz1); have hk1 := Lib.hid hb1.block; clear hc1 hd1 hb1)
  go_ret
  exact ⟨rfl, by go_grown⟩

set_option maxHeartbeats 400000 in
theorem sessionKey_calls (c s : Int) (w : World) : Calls Try.prog 47 #[.int .u64 c, .int .u64 s] w fun e w' => e = .returned (.int .u64 (sessionI c s)) ∧ Below w.heap.size w w' := by
  have hx := xor_comm64 (mix s) c
  go_enter Try.func47, Try.ntmps47
  go_wp2_with (go_at_call 17; refine (Mixed_calls _ _).mono ?_; rintro e w1 ⟨rfl, hb1⟩; have hB1 := binto (by go_grown : Below w.heap.size w _) (by go_size) hb1; obtain ⟨hc1, hd1, hz1⟩ := bcell hb1; (try simp only [World.size_alloc, World.size_setCell, World.size_drew] at hz1); have hk1 := Lib.hid hb1.block; clear hc1 hd1 hb1)
  go_ret
  exact ⟨rfl, by go_grown⟩

set_option maxHeartbeats 400000 in
theorem wayKey_calls (k : Int) (up : Bool) (w : World) : Calls Try.prog 48 #[.int .u64 k, .bool up] w fun e w' => e = .returned (.int .u64 (wayI k up)) ∧ Below w.heap.size w w' := by
  cases up
  · rw [wayI_f]
    go_enter Try.func48, Try.ntmps48
    go_wp2_with (go_at_call 17; refine (Mixed_calls _ _).mono ?_; rintro e w1 ⟨rfl, hb1⟩; have hB1 := binto (by go_grown : Below w.heap.size w _) (by go_size) hb1; obtain ⟨hc1, hd1, hz1⟩ := bcell hb1; (try simp only [World.size_alloc, World.size_setCell, World.size_drew] at hz1); have hk1 := Lib.hid hb1.block; clear hc1 hd1 hb1)
    go_ret
    generalize bits .xor .u64 IntKind.u64.max k = m
    exact ⟨rfl, by go_grown⟩
  · rw [wayI_t]
    go_enter Try.func48, Try.ntmps48
    go_wp2_with (go_at_call 17; refine (Mixed_calls _ _).mono ?_; rintro e w1 ⟨rfl, hb1⟩; have hB1 := binto (by go_grown : Below w.heap.size w _) (by go_size) hb1; obtain ⟨hc1, hd1, hz1⟩ := bcell hb1; (try simp only [World.size_alloc, World.size_setCell, World.size_drew] at hz1); have hk1 := Lib.hid hb1.block; clear hc1 hd1 hb1)
    go_ret
    exact ⟨rfl, by go_grown⟩

set_option maxHeartbeats 1000000 in
theorem wordOf_calls (S : Foot) (v : Value) (l : List UInt8) (w : World) (h : RBytes S w [v] l) :
    Calls Try.prog 49 #[v] w fun e w' => e = .returned (.int .u64 (wordI l)) ∧ w = w' := by
  obtain ⟨A, c, hv, hl, hcr, hl47, he⟩ := h.at_
  injection hv with hv _
  subst hv
  have HR := Lib.hid h
  clear h he
  by_cases h8 : 8 ≤ l.length
  · have h8I : ¬ (l.length : Int) < 8 := by omega
    have h8J : (8 : Int) ≤ (l.length : Int) := by omega
    have HT := HR.out.take 8 h8
    have hcv : (convert 27 9 (.slice A 8 c)).run Try.prog w = .ok (.string (strOf (l.take 8))) w := run_string_of Try.underlying27 Try.underlying5 Try.underlying9 HT
    have e8 : (l.take 8).length = 8 := by rw [List.length_take]; omega
    have hn := fun W => number_calls (strOf (l.take 8)) W (by rw [strOf_size, e8]; omega)
    rw [strOf_list, strOf_size, e8, beU_take l 8 8 (by omega)] at hn
    have HW := Lib.hid (show wordI l = (beU l 8 : Nat) by unfold wordI; rw [show min l.length 8 = 8 by omega])
    have HN := Lib.hid hn
    clear hn HT e8
    have hc1 : ¬ c = 1 := by omega
    go_enter Try.func49, Try.ntmps49
    go_wp2_with (go_at_call 55; refine (HN.out _).mono ?_; rintro e _ ⟨rfl, rfl⟩)
    go_ret
    exact ⟨by rw [HW.out]; rfl, rfl⟩
  · have h8I : (l.length : Int) < 8 := by omega
    have hcv : (convert 27 9 (.slice A l.length c)).run Try.prog w = .ok (.string (strOf l)) w := run_string_of Try.underlying27 Try.underlying5 Try.underlying9 HR.out
    have hn := fun W => number_calls (strOf l) W (by rw [strOf_size]; omega)
    rw [strOf_list, strOf_size] at hn
    have HW := Lib.hid (show wordI l = (beU l l.length : Nat) by unfold wordI; rw [show min l.length 8 = l.length by omega])
    have HN := Lib.hid hn
    clear hn
    go_enter Try.func49, Try.ntmps49
    go_wp2_with (go_at_call 55; refine (HN.out _).mono ?_; rintro e _ ⟨rfl, rfl⟩)
    go_ret
    exact ⟨by rw [HW.out]; rfl, rfl⟩
end Go.Proofs.Ytmfpfpllipogiaa
