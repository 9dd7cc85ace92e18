/-
  packno.Cut, packno.Whole and the reference's: what each answers. No condition.
-/
import Derived.Test.YtmfpfpllipogiaaNum
set_option linter.unusedSimpArgs false
set_option linter.unusedVariables false
namespace Go.Proofs.Ytmfpfpllipogiaa
open Go.RowKit

theorem byteInfo : (Try.prog.info? 5).map (fun i => (i.zero, i.size, i.bytes)) = some (some (.int .u8 0), 1, 1) := by kernel_rfl
theorem byteElem : Elem Try.prog 5 1 1 := elem_of byteInfo rfl

/-- P2.1 -/
def cutOk (n d : Int) : Prop := 0 ≤ n ∧ n ≤ 4611686018427387903 ∧ -1 ≤ d ∧ d < n
instance (n d : Int) : Decidable (cutOk n d) := inferInstanceAs (Decidable (_ ∧ _ ∧ _ ∧ _))
def cutLen (d : Int) : Nat := if d ≤ 128 then 1 else if d ≤ 32768 then 2 else if d ≤ 8388608 then 3 else if d ≤ 2147483648 then 4 else 0
def cutL (n d : Int) : List UInt8 := if cutOk n d then bigL n.toNat (cutLen (n - d)) else []
def cutE (n d : Int) : Int := if cutOk n d ∧ cutLen (n - d) ≠ 0 then 0 else 6

def Cut (w : World) (n d : Int) (e : Ending) (w' : World) : Prop :=
  ∃ v, e = .returned (.tuple #[v, .int .i64 (cutE n d)]) ∧ RBytes (fun b => w.heap.size ≤ b ∧ b < w'.heap.size) w' [v] (cutL n d) ∧ Below w.heap.size w w'

set_option maxHeartbeats 2000000 in
theorem cut_1 (n : Nat) (d : Int) (w : World) (hn : (n : Int) ≤ 4611686018427387903) (hd : -1 ≤ d) (hdn : d < n) (h2 : n - d ≤ 128) :
    Calls Try.prog 21 #[.int .i64 n, .int .i64 d] w (Cut w n d) := by
  have HE : Hid (cutE n d = 0 ∧ cutL n d = bigL n 1) := by
    have ho : cutOk n d := ⟨by omega, hn, hd, hdn⟩
    have hl : cutLen (n - d) = 1 := by
      unfold cutLen
      rw [if_pos (by omega)]
    refine ⟨?_, ?_⟩
    · unfold cutE
      rw [if_pos ⟨ho, by omega⟩]
    · unfold cutL
      rw [if_pos ho, hl, Int.toNat_natCast]
  go_enter Try.func21, Try.ntmps21
  go_wp2
  refine wp_loop_rounds 1 ?_
  rw [rounds_succ]
  go_wp2
  go_loopw [7, 8] (fun v i wr => ∃ j : Nat, j ≤ 1 ∧ i = .int .i64 (1 - 1 - (j : Int)) ∧ wr.ownsRow w.heap.size 5 1 v j (bytesOf ((bigL n 1).take j)) ∧ Below w.heap.size w wr) (fun _ i _ => (intOf i + 1).toNat)
  case atStart => exact ⟨0, by omega, by go_num, ⟨rfl, .inl ⟨rfl, rfl⟩⟩, Below.refl _ _⟩
  case round =>
    obtain ⟨j, hj, rfl, hown, hb⟩ := hrel
    have hbz := hb.size
    by_cases hjj : j < 1
    · have HB := Lib.hid (bytesOf_take n 1 j hjj)
      go_wp2_with (at_builtin; refine wpList_append_one rfl _ _ _ rfl Try.underlying27 byteElem (by decide) rfl hown _ rfl (by simp [Value.oneCell']) rfl (by simp only [maxLen]; omega) (by omega) hbz ?_; intro v1 w1 hown1 hb1 hne1)
      refine ⟨⟨j + 1, by omega, by go_num, ?_, hb.trans hb1⟩, by simp [intOf]; omega⟩
      rw [HB.out]
      first | exact hown1 | simpa using hown1 | trace_state
    · have HJ := Lib.hid (show j = 1 by omega)
      go_wp2
      go_ret2
      have hj2 := HJ.out
      subst hj2
      rw [List.take_of_length_le (by rw [bigL_length]; omega)] at hown
      have hown2 : wr.ownsRow w.heap.size 5 1 u7 (bigL n 1).length ((bigL n 1).map fun c => .int .u8 (c.toNat : Int)) := by rw [bigL_length]; exact hown
      exact ⟨u7, by rw [HE.out.1]; rfl, by rw [HE.out.2]; exact rbytes_of_own hown2 (fun b h1 h2 => ⟨h1, h2⟩) (by rw [bigL_length]; omega), hb⟩

set_option maxHeartbeats 2000000 in
theorem cut_2 (n : Nat) (d : Int) (w : World) (hn : (n : Int) ≤ 4611686018427387903) (hd : -1 ≤ d) (hdn : d < n) (h1 : 128 < n - d) (h2 : n - d ≤ 32768) :
    Calls Try.prog 21 #[.int .i64 n, .int .i64 d] w (Cut w n d) := by
  have HE : Hid (cutE n d = 0 ∧ cutL n d = bigL n 2) := by
    have ho : cutOk n d := ⟨by omega, hn, hd, hdn⟩
    have hl : cutLen (n - d) = 2 := by
      unfold cutLen
      rw [if_neg (by omega)]; rw [if_pos (by omega)]
    refine ⟨?_, ?_⟩
    · unfold cutE
      rw [if_pos ⟨ho, by omega⟩]
    · unfold cutL
      rw [if_pos ho, hl, Int.toNat_natCast]
  go_enter Try.func21, Try.ntmps21
  go_wp2
  refine wp_loop_rounds 2 ?_
  rw [rounds_succ]
  go_wp2
  rw [rounds_succ]
  go_wp2
  go_loopw [7, 8] (fun v i wr => ∃ j : Nat, j ≤ 2 ∧ i = .int .i64 (2 - 1 - (j : Int)) ∧ wr.ownsRow w.heap.size 5 1 v j (bytesOf ((bigL n 2).take j)) ∧ Below w.heap.size w wr) (fun _ i _ => (intOf i + 1).toNat)
  case atStart => exact ⟨0, by omega, by go_num, ⟨rfl, .inl ⟨rfl, rfl⟩⟩, Below.refl _ _⟩
  case round =>
    obtain ⟨j, hj, rfl, hown, hb⟩ := hrel
    have hbz := hb.size
    by_cases hjj : j < 2
    · have HB := Lib.hid (bytesOf_take n 2 j hjj)
      go_wp2_with (at_builtin; refine wpList_append_one rfl _ _ _ rfl Try.underlying27 byteElem (by decide) rfl hown _ rfl (by simp [Value.oneCell']) rfl (by simp only [maxLen]; omega) (by omega) hbz ?_; intro v1 w1 hown1 hb1 hne1)
      refine ⟨⟨j + 1, by omega, by go_num, ?_, hb.trans hb1⟩, by simp [intOf]; omega⟩
      rw [HB.out]
      first | exact hown1 | simpa using hown1 | trace_state
    · have HJ := Lib.hid (show j = 2 by omega)
      go_wp2
      go_ret2
      have hj2 := HJ.out
      subst hj2
      rw [List.take_of_length_le (by rw [bigL_length]; omega)] at hown
      have hown2 : wr.ownsRow w.heap.size 5 1 u7 (bigL n 2).length ((bigL n 2).map fun c => .int .u8 (c.toNat : Int)) := by rw [bigL_length]; exact hown
      exact ⟨u7, by rw [HE.out.1]; rfl, by rw [HE.out.2]; exact rbytes_of_own hown2 (fun b h1 h2 => ⟨h1, h2⟩) (by rw [bigL_length]; omega), hb⟩

set_option maxHeartbeats 2000000 in
theorem cut_3 (n : Nat) (d : Int) (w : World) (hn : (n : Int) ≤ 4611686018427387903) (hd : -1 ≤ d) (hdn : d < n) (h1 : 32768 < n - d) (h2 : n - d ≤ 8388608) :
    Calls Try.prog 21 #[.int .i64 n, .int .i64 d] w (Cut w n d) := by
  have HE : Hid (cutE n d = 0 ∧ cutL n d = bigL n 3) := by
    have ho : cutOk n d := ⟨by omega, hn, hd, hdn⟩
    have hl : cutLen (n - d) = 3 := by
      unfold cutLen
      rw [if_neg (by omega)]; rw [if_neg (by omega)]; rw [if_pos (by omega)]
    refine ⟨?_, ?_⟩
    · unfold cutE
      rw [if_pos ⟨ho, by omega⟩]
    · unfold cutL
      rw [if_pos ho, hl, Int.toNat_natCast]
  go_enter Try.func21, Try.ntmps21
  go_wp2
  refine wp_loop_rounds 3 ?_
  rw [rounds_succ]
  go_wp2
  rw [rounds_succ]
  go_wp2
  rw [rounds_succ]
  go_wp2
  go_loopw [7, 8] (fun v i wr => ∃ j : Nat, j ≤ 3 ∧ i = .int .i64 (3 - 1 - (j : Int)) ∧ wr.ownsRow w.heap.size 5 1 v j (bytesOf ((bigL n 3).take j)) ∧ Below w.heap.size w wr) (fun _ i _ => (intOf i + 1).toNat)
  case atStart => exact ⟨0, by omega, by go_num, ⟨rfl, .inl ⟨rfl, rfl⟩⟩, Below.refl _ _⟩
  case round =>
    obtain ⟨j, hj, rfl, hown, hb⟩ := hrel
    have hbz := hb.size
    by_cases hjj : j < 3
    · have HB := Lib.hid (bytesOf_take n 3 j hjj)
      go_wp2_with (at_builtin; refine wpList_append_one rfl _ _ _ rfl Try.underlying27 byteElem (by decide) rfl hown _ rfl (by simp [Value.oneCell']) rfl (by simp only [maxLen]; omega) (by omega) hbz ?_; intro v1 w1 hown1 hb1 hne1)
      refine ⟨⟨j + 1, by omega, by go_num, ?_, hb.trans hb1⟩, by simp [intOf]; omega⟩
      rw [HB.out]
      first | exact hown1 | simpa using hown1 | trace_state
    · have HJ := Lib.hid (show j = 3 by omega)
      go_wp2
      go_ret2
      have hj2 := HJ.out
      subst hj2
      rw [List.take_of_length_le (by rw [bigL_length]; omega)] at hown
      have hown2 : wr.ownsRow w.heap.size 5 1 u7 (bigL n 3).length ((bigL n 3).map fun c => .int .u8 (c.toNat : Int)) := by rw [bigL_length]; exact hown
      exact ⟨u7, by rw [HE.out.1]; rfl, by rw [HE.out.2]; exact rbytes_of_own hown2 (fun b h1 h2 => ⟨h1, h2⟩) (by rw [bigL_length]; omega), hb⟩

set_option maxHeartbeats 2000000 in
theorem cut_4 (n : Nat) (d : Int) (w : World) (hn : (n : Int) ≤ 4611686018427387903) (hd : -1 ≤ d) (hdn : d < n) (h1 : 8388608 < n - d) (h2 : n - d ≤ 2147483648) :
    Calls Try.prog 21 #[.int .i64 n, .int .i64 d] w (Cut w n d) := by
  have HE : Hid (cutE n d = 0 ∧ cutL n d = bigL n 4) := by
    have ho : cutOk n d := ⟨by omega, hn, hd, hdn⟩
    have hl : cutLen (n - d) = 4 := by
      unfold cutLen
      rw [if_neg (by omega)]; rw [if_neg (by omega)]; rw [if_neg (by omega)]; rw [if_pos (by omega)]
    refine ⟨?_, ?_⟩
    · unfold cutE
      rw [if_pos ⟨ho, by omega⟩]
    · unfold cutL
      rw [if_pos ho, hl, Int.toNat_natCast]
  go_enter Try.func21, Try.ntmps21
  go_wp2
  refine wp_loop_rounds 4 ?_
  rw [rounds_succ]
  go_wp2
  rw [rounds_succ]
  go_wp2
  rw [rounds_succ]
  go_wp2
  rw [rounds_succ]
  go_wp2
  go_loopw [7, 8] (fun v i wr => ∃ j : Nat, j ≤ 4 ∧ i = .int .i64 (4 - 1 - (j : Int)) ∧ wr.ownsRow w.heap.size 5 1 v j (bytesOf ((bigL n 4).take j)) ∧ Below w.heap.size w wr) (fun _ i _ => (intOf i + 1).toNat)
  case atStart => exact ⟨0, by omega, by go_num, ⟨rfl, .inl ⟨rfl, rfl⟩⟩, Below.refl _ _⟩
  case round =>
    obtain ⟨j, hj, rfl, hown, hb⟩ := hrel
    have hbz := hb.size
    by_cases hjj : j < 4
    · have HB := Lib.hid (bytesOf_take n 4 j hjj)
      go_wp2_with (at_builtin; refine wpList_append_one rfl _ _ _ rfl Try.underlying27 byteElem (by decide) rfl hown _ rfl (by simp [Value.oneCell']) rfl (by simp only [maxLen]; omega) (by omega) hbz ?_; intro v1 w1 hown1 hb1 hne1)
      refine ⟨⟨j + 1, by omega, by go_num, ?_, hb.trans hb1⟩, by simp [intOf]; omega⟩
      rw [HB.out]
      first | exact hown1 | simpa using hown1 | trace_state
    · have HJ := Lib.hid (show j = 4 by omega)
      go_wp2
      go_ret2
      have hj2 := HJ.out
      subst hj2
      rw [List.take_of_length_le (by rw [bigL_length]; omega)] at hown
      have hown2 : wr.ownsRow w.heap.size 5 1 u7 (bigL n 4).length ((bigL n 4).map fun c => .int .u8 (c.toNat : Int)) := by rw [bigL_length]; exact hown
      exact ⟨u7, by rw [HE.out.1]; rfl, by rw [HE.out.2]; exact rbytes_of_own hown2 (fun b h1 h2 => ⟨h1, h2⟩) (by rw [bigL_length]; omega), hb⟩

set_option maxHeartbeats 2000000 in
theorem cutNumber_1 (n : Nat) (d : Int) (w : World) (hn : (n : Int) ≤ 4611686018427387903) (hd : -1 ≤ d) (hdn : d < n) (h2 : n - d ≤ 128) :
    Calls Try.prog 22 #[.int .i64 n, .int .i64 d] w (Cut w n d) := by
  have HE : Hid (cutE n d = 0 ∧ cutL n d = bigL n 1) := by
    have ho : cutOk n d := ⟨by omega, hn, hd, hdn⟩
    have hl : cutLen (n - d) = 1 := by
      unfold cutLen
      rw [if_pos (by omega)]
    refine ⟨?_, ?_⟩
    · unfold cutE
      rw [if_pos ⟨ho, by omega⟩]
    · unfold cutL
      rw [if_pos ho, hl, Int.toNat_natCast]
  have HBIG : Hid (∀ W, Calls Try.prog 57 #[.int .u64 n, .int .i64 1] W fun e w' => e = .returned (.string (strOf (bigL n 1))) ∧ Below W.heap.size W w') := fun W => big_calls n 1 (by decide) (by omega) W
  have hn0 : (0 : Int) ≤ n := by omega
  go_enter Try.func22, Try.ntmps22
  go_wp2_with (go_at_call 56; refine (upTo_calls _ _ _).mono ?_; rintro e _ ⟨rfl, rfl⟩)
  refine wp_loop_rounds 1 ?_
  rw [rounds_succ]
  go_wp2_with ((go_at_call 57; refine (HBIG.out _).mono ?_; rintro e w1 ⟨rfl, hb1⟩; have hB1 := binto (by go_grown : Below w.heap.size w _) (by go_size) hb1; obtain ⟨hc1, hd1, hz1⟩ := bcell hb1; (try simp only [World.size_alloc, World.size_setCell, World.size_drew] at hz1); have hk1 := Lib.hid hb1.block; clear hc1 hd1 hb1); obtain ⟨v2, w2, hr, hv2, hb2, ⟨a2, n2, c2, rfl⟩⟩ := bytes_of_string (P := Try.prog) Try.underlying9 Try.underlying27 Try.underlying5 w1 (bigL n 1) (by rw [bigL_length]; omega))
  go_ret2
  exact ⟨_, by rw [HE.out.1]; rfl, by rw [HE.out.2]; exact RBytes.keeps _ _ _ _ _ _ (fun b hb => ⟨by have := hB1.size; omega, hb.2⟩) (fun _ _ => rfl) hv2, hB1.trans (hb2.mono hB1.size)⟩

set_option maxHeartbeats 2000000 in
theorem cutNumber_2 (n : Nat) (d : Int) (w : World) (hn : (n : Int) ≤ 4611686018427387903) (hd : -1 ≤ d) (hdn : d < n) (h1 : 128 < n - d) (h2 : n - d ≤ 32768) :
    Calls Try.prog 22 #[.int .i64 n, .int .i64 d] w (Cut w n d) := by
  have HE : Hid (cutE n d = 0 ∧ cutL n d = bigL n 2) := by
    have ho : cutOk n d := ⟨by omega, hn, hd, hdn⟩
    have hl : cutLen (n - d) = 2 := by
      unfold cutLen
      rw [if_neg (by omega)]; rw [if_pos (by omega)]
    refine ⟨?_, ?_⟩
    · unfold cutE
      rw [if_pos ⟨ho, by omega⟩]
    · unfold cutL
      rw [if_pos ho, hl, Int.toNat_natCast]
  have HBIG : Hid (∀ W, Calls Try.prog 57 #[.int .u64 n, .int .i64 2] W fun e w' => e = .returned (.string (strOf (bigL n 2))) ∧ Below W.heap.size W w') := fun W => big_calls n 2 (by decide) (by omega) W
  have hn0 : (0 : Int) ≤ n := by omega
  go_enter Try.func22, Try.ntmps22
  go_wp2_with (go_at_call 56; refine (upTo_calls _ _ _).mono ?_; rintro e _ ⟨rfl, rfl⟩)
  refine wp_loop_rounds 2 ?_
  rw [rounds_succ]
  go_wp2
  rw [rounds_succ]
  go_wp2_with ((go_at_call 57; refine (HBIG.out _).mono ?_; rintro e w1 ⟨rfl, hb1⟩; have hB1 := binto (by go_grown : Below w.heap.size w _) (by go_size) hb1; obtain ⟨hc1, hd1, hz1⟩ := bcell hb1; (try simp only [World.size_alloc, World.size_setCell, World.size_drew] at hz1); have hk1 := Lib.hid hb1.block; clear hc1 hd1 hb1); obtain ⟨v2, w2, hr, hv2, hb2, ⟨a2, n2, c2, rfl⟩⟩ := bytes_of_string (P := Try.prog) Try.underlying9 Try.underlying27 Try.underlying5 w1 (bigL n 2) (by rw [bigL_length]; omega))
  go_ret2
  exact ⟨_, by rw [HE.out.1]; rfl, by rw [HE.out.2]; exact RBytes.keeps _ _ _ _ _ _ (fun b hb => ⟨by have := hB1.size; omega, hb.2⟩) (fun _ _ => rfl) hv2, hB1.trans (hb2.mono hB1.size)⟩

set_option maxHeartbeats 2000000 in
theorem cutNumber_3 (n : Nat) (d : Int) (w : World) (hn : (n : Int) ≤ 4611686018427387903) (hd : -1 ≤ d) (hdn : d < n) (h1 : 32768 < n - d) (h2 : n - d ≤ 8388608) :
    Calls Try.prog 22 #[.int .i64 n, .int .i64 d] w (Cut w n d) := by
  have HE : Hid (cutE n d = 0 ∧ cutL n d = bigL n 3) := by
    have ho : cutOk n d := ⟨by omega, hn, hd, hdn⟩
    have hl : cutLen (n - d) = 3 := by
      unfold cutLen
      rw [if_neg (by omega)]; rw [if_neg (by omega)]; rw [if_pos (by omega)]
    refine ⟨?_, ?_⟩
    · unfold cutE
      rw [if_pos ⟨ho, by omega⟩]
    · unfold cutL
      rw [if_pos ho, hl, Int.toNat_natCast]
  have HBIG : Hid (∀ W, Calls Try.prog 57 #[.int .u64 n, .int .i64 3] W fun e w' => e = .returned (.string (strOf (bigL n 3))) ∧ Below W.heap.size W w') := fun W => big_calls n 3 (by decide) (by omega) W
  have hn0 : (0 : Int) ≤ n := by omega
  go_enter Try.func22, Try.ntmps22
  go_wp2_with (go_at_call 56; refine (upTo_calls _ _ _).mono ?_; rintro e _ ⟨rfl, rfl⟩)
  refine wp_loop_rounds 3 ?_
  rw [rounds_succ]
  go_wp2
  rw [rounds_succ]
  go_wp2
  rw [rounds_succ]
  go_wp2_with ((go_at_call 57; refine (HBIG.out _).mono ?_; rintro e w1 ⟨rfl, hb1⟩; have hB1 := binto (by go_grown : Below w.heap.size w _) (by go_size) hb1; obtain ⟨hc1, hd1, hz1⟩ := bcell hb1; (try simp only [World.size_alloc, World.size_setCell, World.size_drew] at hz1); have hk1 := Lib.hid hb1.block; clear hc1 hd1 hb1); obtain ⟨v2, w2, hr, hv2, hb2, ⟨a2, n2, c2, rfl⟩⟩ := bytes_of_string (P := Try.prog) Try.underlying9 Try.underlying27 Try.underlying5 w1 (bigL n 3) (by rw [bigL_length]; omega))
  go_ret2
  exact ⟨_, by rw [HE.out.1]; rfl, by rw [HE.out.2]; exact RBytes.keeps _ _ _ _ _ _ (fun b hb => ⟨by have := hB1.size; omega, hb.2⟩) (fun _ _ => rfl) hv2, hB1.trans (hb2.mono hB1.size)⟩

set_option maxHeartbeats 2000000 in
theorem cutNumber_4 (n : Nat) (d : Int) (w : World) (hn : (n : Int) ≤ 4611686018427387903) (hd : -1 ≤ d) (hdn : d < n) (h1 : 8388608 < n - d) (h2 : n - d ≤ 2147483648) :
    Calls Try.prog 22 #[.int .i64 n, .int .i64 d] w (Cut w n d) := by
  have HE : Hid (cutE n d = 0 ∧ cutL n d = bigL n 4) := by
    have ho : cutOk n d := ⟨by omega, hn, hd, hdn⟩
    have hl : cutLen (n - d) = 4 := by
      unfold cutLen
      rw [if_neg (by omega)]; rw [if_neg (by omega)]; rw [if_neg (by omega)]; rw [if_pos (by omega)]
    refine ⟨?_, ?_⟩
    · unfold cutE
      rw [if_pos ⟨ho, by omega⟩]
    · unfold cutL
      rw [if_pos ho, hl, Int.toNat_natCast]
  have HBIG : Hid (∀ W, Calls Try.prog 57 #[.int .u64 n, .int .i64 4] W fun e w' => e = .returned (.string (strOf (bigL n 4))) ∧ Below W.heap.size W w') := fun W => big_calls n 4 (by decide) (by omega) W
  have hn0 : (0 : Int) ≤ n := by omega
  go_enter Try.func22, Try.ntmps22
  go_wp2_with (go_at_call 56; refine (upTo_calls _ _ _).mono ?_; rintro e _ ⟨rfl, rfl⟩)
  refine wp_loop_rounds 4 ?_
  rw [rounds_succ]
  go_wp2
  rw [rounds_succ]
  go_wp2
  rw [rounds_succ]
  go_wp2
  rw [rounds_succ]
  go_wp2_with ((go_at_call 57; refine (HBIG.out _).mono ?_; rintro e w1 ⟨rfl, hb1⟩; have hB1 := binto (by go_grown : Below w.heap.size w _) (by go_size) hb1; obtain ⟨hc1, hd1, hz1⟩ := bcell hb1; (try simp only [World.size_alloc, World.size_setCell, World.size_drew] at hz1); have hk1 := Lib.hid hb1.block; clear hc1 hd1 hb1); obtain ⟨v2, w2, hr, hv2, hb2, ⟨a2, n2, c2, rfl⟩⟩ := bytes_of_string (P := Try.prog) Try.underlying9 Try.underlying27 Try.underlying5 w1 (bigL n 4) (by rw [bigL_length]; omega))
  go_ret2
  exact ⟨_, by rw [HE.out.1]; rfl, by rw [HE.out.2]; exact RBytes.keeps _ _ _ _ _ _ (fun b hb => ⟨by have := hB1.size; omega, hb.2⟩) (fun _ _ => rfl) hv2, hB1.trans (hb2.mono hB1.size)⟩

set_option maxHeartbeats 2000000 in
theorem cut_far (n d : Int) (w : World) (h0 : 0 ≤ n) (hn : n ≤ 4611686018427387903) (hd : -1 ≤ d) (hdn : d < n) (h1 : 2147483648 < n - d) :
    Calls Try.prog 21 #[.int .i64 n, .int .i64 d] w (Cut w n d) := by
  have HE : Hid (cutE n d = 6 ∧ cutL n d = []) := by
    have ho : cutOk n d := ⟨h0, hn, hd, hdn⟩
    have hl : cutLen (n - d) = 0 := by
      unfold cutLen
      rw [if_neg (by omega), if_neg (by omega), if_neg (by omega), if_neg (by omega)]
    refine ⟨?_, ?_⟩
    · unfold cutE
      rw [if_neg (fun h => h.2 hl)]
    · unfold cutL
      rw [if_pos ho, hl]
      rfl
  go_enter Try.func21, Try.ntmps21
  go_wp2
  refine wp_loop_rounds 5 ?_
  rw [rounds_succ]
  go_wp2
  rw [rounds_succ]
  go_wp2
  rw [rounds_succ]
  go_wp2
  rw [rounds_succ]
  go_wp2
  rw [rounds_succ]
  go_wp2
  go_ret2
  exact ⟨_, by rw [HE.out.1]; rfl, by rw [HE.out.2]; exact rbytes_nil, Below.refl _ _⟩

set_option maxHeartbeats 2000000 in
theorem cut_bad (n d : Int) (w : World) (ho : ¬ cutOk n d) :
    Calls Try.prog 21 #[.int .i64 n, .int .i64 d] w (Cut w n d) := by
  have HE : Hid (cutE n d = 6 ∧ cutL n d = []) := by
    refine ⟨?_, ?_⟩
    · unfold cutE
      rw [if_neg (fun h => ho h.1)]
    · unfold cutL
      rw [if_neg ho]
  unfold cutOk at ho
  have HO := Lib.hid ho
  clear ho
  go_enter Try.func21, Try.ntmps21
  go_wp2
  all_goals first
    | (exfalso; have := HO.out; (try simp only [Bool.not_eq_true', Bool.not_eq_false', Bool.and_eq_true, Bool.or_eq_true, Bool.and_eq_false_iff, Bool.or_eq_false_iff, decide_eq_true_eq, decide_eq_false_iff_not, Int.not_le, Int.not_lt] at *); omega)
    | (go_ret2; exact ⟨_, by rw [HE.out.1]; rfl, by rw [HE.out.2]; exact rbytes_nil, Below.refl _ _⟩)

theorem cut_calls (n d : Int) (w : World) : Calls Try.prog 21 #[.int .i64 n, .int .i64 d] w (Cut w n d) := by
  by_cases ho : cutOk n d
  · have ho' := ho
    obtain ⟨h0, hn, hd, hdn⟩ := ho
    obtain ⟨m, rfl⟩ := Int.eq_ofNat_of_zero_le h0
    by_cases h1 : (m : Int) - d ≤ 128
    · exact cut_1 m d w hn hd hdn h1
    · by_cases h2 : (m : Int) - d ≤ 32768
      · exact cut_2 m d w hn hd hdn (by omega) h2
      · by_cases h3 : (m : Int) - d ≤ 8388608
        · exact cut_3 m d w hn hd hdn (by omega) h3
        · by_cases h4 : (m : Int) - d ≤ 2147483648
          · exact cut_4 m d w hn hd hdn (by omega) h4
          · exact cut_far m d w h0 hn hd hdn (by omega)
  · exact cut_bad n d w ho

set_option maxHeartbeats 2000000 in
theorem cutNumber_far (n d : Int) (w : World) (h0 : 0 ≤ n) (hn : n ≤ 4611686018427387903) (hd : -1 ≤ d) (hdn : d < n) (h1 : 2147483648 < n - d) :
    Calls Try.prog 22 #[.int .i64 n, .int .i64 d] w (Cut w n d) := by
  have HE : Hid (cutE n d = 6 ∧ cutL n d = []) := by
    have ho : cutOk n d := ⟨h0, hn, hd, hdn⟩
    have hl : cutLen (n - d) = 0 := by
      unfold cutLen
      rw [if_neg (by omega), if_neg (by omega), if_neg (by omega), if_neg (by omega)]
    refine ⟨?_, ?_⟩
    · unfold cutE
      rw [if_neg (fun h => h.2 hl)]
    · unfold cutL
      rw [if_pos ho, hl]
      rfl
  go_enter Try.func22, Try.ntmps22
  go_wp2_with (go_at_call 56; refine (upTo_calls _ _ _).mono ?_; rintro e _ ⟨rfl, rfl⟩)
  refine wp_loop_rounds 5 ?_
  rw [rounds_succ]
  go_wp2
  rw [rounds_succ]
  go_wp2
  rw [rounds_succ]
  go_wp2
  rw [rounds_succ]
  go_wp2
  rw [rounds_succ]
  go_wp2
  go_ret2
  exact ⟨_, by rw [HE.out.1]; rfl, by rw [HE.out.2]; exact rbytes_nil, Below.refl _ _⟩

set_option maxHeartbeats 2000000 in
theorem cutNumber_bad (n d : Int) (w : World) (ho : ¬ cutOk n d) :
    Calls Try.prog 22 #[.int .i64 n, .int .i64 d] w (Cut w n d) := by
  have HE : Hid (cutE n d = 6 ∧ cutL n d = []) := by
    refine ⟨?_, ?_⟩
    · unfold cutE
      rw [if_neg (fun h => ho h.1)]
    · unfold cutL
      rw [if_neg ho]
  unfold cutOk at ho
  have HO := Lib.hid ho
  clear ho
  go_enter Try.func22, Try.ntmps22
  go_wp2_with (go_at_call 56; refine (upTo_calls _ _ _).mono ?_; rintro e _ ⟨rfl, rfl⟩)
  all_goals first
    | (exfalso; have := HO.out; (try simp only [Bool.not_eq_true', Bool.not_eq_false', Bool.and_eq_true, Bool.or_eq_true, Bool.and_eq_false_iff, Bool.or_eq_false_iff, decide_eq_true_eq, decide_eq_false_iff_not, Int.not_le, Int.not_lt] at *); omega)
    | (go_ret2; exact ⟨_, by rw [HE.out.1]; rfl, by rw [HE.out.2]; exact rbytes_nil, Below.refl _ _⟩)

theorem cutNumber_calls (n d : Int) (w : World) : Calls Try.prog 22 #[.int .i64 n, .int .i64 d] w (Cut w n d) := by
  by_cases ho : cutOk n d
  · have ho' := ho
    obtain ⟨h0, hn, hd, hdn⟩ := ho
    obtain ⟨m, rfl⟩ := Int.eq_ofNat_of_zero_le h0
    by_cases h1 : (m : Int) - d ≤ 128
    · exact cutNumber_1 m d w hn hd hdn h1
    · by_cases h2 : (m : Int) - d ≤ 32768
      · exact cutNumber_2 m d w hn hd hdn (by omega) h2
      · by_cases h3 : (m : Int) - d ≤ 8388608
        · exact cutNumber_3 m d w hn hd hdn (by omega) h3
        · by_cases h4 : (m : Int) - d ≤ 2147483648
          · exact cutNumber_4 m d w hn hd hdn (by omega) h4
          · exact cutNumber_far m d w h0 hn hd hdn (by omega)
  · exact cutNumber_bad n d w ho

end Go.Proofs.Ytmfpfpllipogiaa
