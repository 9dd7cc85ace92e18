/-
  token.eight, Make and the reference's TokenOf. No condition.
-/
import Derived.Test.YtmfpfpllipogiaaPackno
import Derived.Test.YtmfpfpllipogiaaLock
import Derived.Deep.OwnRows
set_option linter.unusedSimpArgs false
set_option linter.unusedVariables false
namespace Go.Proofs.Ytmfpfpllipogiaa
open Go.RowKit

theorem bytesOf_big8 (n : Nat) (hn : n < 18446744073709551616) : (bytesOf (bigL n 8)).toArray =
    #[.int .u8 ((n : Int) / 72057594037927936), .int .u8 ((n : Int) / 281474976710656 % 256), .int .u8 ((n : Int) / 1099511627776 % 256), .int .u8 ((n : Int) / 4294967296 % 256), .int .u8 ((n : Int) / 16777216 % 256), .int .u8 ((n : Int) / 65536 % 256), .int .u8 ((n : Int) / 256 % 256), .int .u8 ((n : Int) % 256)] := by
  unfold bytesOf bigL
  unfold bigL
  unfold bigL
  unfold bigL
  unfold bigL
  unfold bigL
  unfold bigL
  unfold bigL
  unfold bigL
  simp only [List.map_cons, List.map_nil, ofNat_toNat]
  have h7 : (256 : Nat) ^ 7 = 72057594037927936 := by decide
  have h6 : (256 : Nat) ^ 6 = 281474976710656 := by decide
  have h5 : (256 : Nat) ^ 5 = 1099511627776 := by decide
  have h4 : (256 : Nat) ^ 4 = 4294967296 := by decide
  have h3 : (256 : Nat) ^ 3 = 16777216 := by decide
  have h2 : (256 : Nat) ^ 2 = 65536 := by decide
  have e7 : ((n / 256 ^ 7 : Nat) : Int) % 256 = (n : Int) / 72057594037927936 := by rw [h7]; omega
  have e6 : ((n / 256 ^ 6 : Nat) : Int) % 256 = (n : Int) / 281474976710656 % 256 := by rw [h6]; omega
  have e5 : ((n / 256 ^ 5 : Nat) : Int) % 256 = (n : Int) / 1099511627776 % 256 := by rw [h5]; omega
  have e4 : ((n / 256 ^ 4 : Nat) : Int) % 256 = (n : Int) / 4294967296 % 256 := by rw [h4]; omega
  have e3 : ((n / 256 ^ 3 : Nat) : Int) % 256 = (n : Int) / 16777216 % 256 := by rw [h3]; omega
  have e2 : ((n / 256 ^ 2 : Nat) : Int) % 256 = (n : Int) / 65536 % 256 := by rw [h2]; omega
  have e1 : ((n / 256 ^ 1 : Nat) : Int) % 256 = (n : Int) / 256 % 256 := by rw [Nat.pow_one]; omega
  have e0 : ((n / 256 ^ 0 : Nat) : Int) % 256 = (n : Int) % 256 := by rw [Nat.pow_zero]; omega
  rw [e7, e6, e5, e4, e3, e2, e1, e0]

set_option maxRecDepth 100000 in
set_option maxHeartbeats 1000000 in
theorem eight_calls (n : Nat) (hn : n < 18446744073709551616) (w : World) :
    Calls Try.prog 61 #[.int .u64 n] w fun e w' => e = .returned (.slice (some ⟨w.heap.size, 0, none⟩) 8 8) ∧ w' = w.alloc (.cells (bytesOf (bigL n 8)).toArray 5) := by
  have hmk : ∀ w : World, (Instr.makeSlice 27 (.int .i64 8) (.int .i64 8)).run Try.prog w = .ok (.slice (some ⟨w.heap.size, 0, none⟩) 8 8) (w.alloc (.cells #[.int .u8 0, .int .u8 0, .int .u8 0, .int .u8 0, .int .u8 0, .int .u8 0, .int .u8 0, .int .u8 0] 5)) := by
    intro w
    have h := run_make_row' (P := Try.prog) 27 5 (.int .u8 0) 1 Try.underlying27 (by kernel_rfl) rfl .i64 .i64 8 (by omega) (by omega) w
    rw [show madeCells #[Value.int .u8 0] 8 = #[.int .u8 0, .int .u8 0, .int .u8 0, .int .u8 0, .int .u8 0, .int .u8 0, .int .u8 0, .int .u8 0] from by
      apply Array.ext
      · rw [size_madeCells]; rfl
      · intro i h1 h2
        rw [size_madeCells] at h1
        have : i = 0 ∨ i = 1 ∨ i = 2 ∨ i = 3 ∨ i = 4 ∨ i = 5 ∨ i = 6 ∨ i = 7 := by omega
        simp only [madeCells, Array.getElem_map, Array.getElem_range]
        rcases this with rfl | rfl | rfl | rfl | rfl | rfl | rfl | rfl <;> rfl] at h
    exact h
  have HB := Lib.hid (bytesOf_big8 n hn)
  go_enter Try.func61, Try.ntmps61
  go_wp2
  go_rounds 9
  go_ret
  rw [HB.out]
  exact ⟨rfl, rfl⟩

theorem strOf_append (l m : List UInt8) : strOf l ++ strOf m = strOf (l ++ m) := by
  apply ByteArray.ext
  simp [strOf]
theorem owns_of_heap {w : World} {base g n : Nat} {e : TypeId} {xs : List Value} (h : w.heap[g]? = some (.cells xs.toArray e)) (hb : base ≤ g) (hn : xs.length = n) (hm : n ≤ maxLen) : w.ownsRow base e 1 (.slice (some ⟨g, 0, none⟩) n n) n xs :=
  ⟨by omega, .inr ⟨g, n, xs.toArray, rfl, hb, h, Nat.le_refl _, hm, by simp [hn], by rw [Nat.mul_one, ← hn]; simp⟩⟩
theorem bytesOf_append (l m : List UInt8) : bytesOf l ++ bytesOf m = bytesOf (l ++ m) := by unfold bytesOf; rw [List.map_append]
theorem bytesOf_length (l : List UInt8) : (bytesOf l).length = l.length := by unfold bytesOf; rw [List.length_map]
theorem bytesOf_one (l : List UInt8) : ∀ u ∈ bytesOf l, u.oneCell' = true := by
  intro u hu
  unfold bytesOf at hu
  obtain ⟨c, _, rfl⟩ := List.mem_map.1 hu
  rfl

/-- the words of a token -/
def sealI (s a t : Int) : Int := mix (bits .xor .u64 (keyI s a) (mix t))
theorem mix_range (x : Int) : 0 ≤ mix x ∧ mix x < 18446744073709551616 := by
  unfold mix mixE
  generalize (mixS (mixS (mix1 x) 13787848793156543929 1073741824) 10723151780598845931 134217728) = y
  show 0 ≤ IntKind.u64.wrap _ ∧ IntKind.u64.wrap _ < _
  generalize (((BitVec.ofInt 64 y ^^^ BitVec.ofInt 64 (y / 2147483648)).toNat : Nat) : Int) = z
  rw [IntKind.wrap_u64]
  omega
def tokenOk (t : Int) : Prop := 0 ≤ t ∧ t ≤ 1099511627776
instance (t : Int) : Decidable (tokenOk t) := inferInstanceAs (Decidable (_ ∧ _))
/-- P7.1 -/
def tokenL (s a t : Int) : List UInt8 := if tokenOk t then bigL t.toNat 8 ++ bigL (sealI s a t).toNat 8 else []
def tokenE (t : Int) : Int := if tokenOk t then 0 else 6
def Tok (w : World) (s a t : Int) (e : Ending) (w' : World) : Prop :=
  ∃ v, e = .returned (.tuple #[v, .int .i64 (tokenE t)]) ∧ RBytes (fun b => w.heap.size ≤ b ∧ b < w'.heap.size) w' [v] (tokenL s a t) ∧ Below w.heap.size w w'

set_option maxRecDepth 100000 in
set_option maxHeartbeats 2000000 in
theorem tokenMake_calls (s a t : Int) (w : World) : Calls Try.prog 34 #[.int .u64 s, .int .i64 a, .int .i64 t] w (Tok w s a t) := by
  by_cases ho : tokenOk t
  · have HL := Lib.hid (show tokenL s a t = bigL t.toNat 8 ++ bigL (sealI s a t).toNat 8 from if_pos ho)
    have HE := Lib.hid (show tokenE t = 0 from if_pos ho)
    obtain ⟨h0, h1⟩ := ho
    obtain ⟨n, rfl⟩ := Int.eq_ofNat_of_zero_le h0
    obtain ⟨hm0, hm1⟩ := mix_range (bits .xor .u64 (keyI s a) (mix n))
    obtain ⟨m, hm⟩ := Int.eq_ofNat_of_zero_le hm0
    rw [show sealI s a n = (m : Int) from hm, Int.toNat_natCast, Int.toNat_natCast] at HL
    have e1 := eight_calls n (by omega)
    have e2 := eight_calls m (by omega)
    have e2' : ∀ w, Calls Try.prog 61 #[.int .u64 (mix (bits .xor .u64 (keyI s a) (mix n)))] w fun e w' => e = .returned (.slice (some ⟨w.heap.size, 0, none⟩) 8 8) ∧ w' = w.alloc (.cells (bytesOf (bigL m 8)).toArray 5) := fun w => by rw [hm]; exact e2 w
    have k2 := Mix_calls n
    have k3 := Key_calls s a
    generalize hx1 : bytesOf (bigL n 8) = B1 at e1
    generalize hx2 : bytesOf (bigL m 8) = B2 at e2'
    generalize mix n = Q at *
    generalize keyI s a = P at *
    have HX1 := Lib.hid hx1
    have HX2 := Lib.hid hx2
    have E1 := Lib.hid e1
    have E2 := Lib.hid e2'
    have K2 := Lib.hid k2
    have K3 := Lib.hid k3
    clear e1 e2 e2' k2 k3 hm hm0 hm1 hx1 hx2
    have hw : IntKind.u64.wrap (n : Int) = (n : Int) := by rw [IntKind.wrap_u64]; omega
    obtain ⟨i, z, hi, hz, g2, g3, g4⟩ := byteElem
    have HM8 : Hid (8 ≤ maxLen) := by show 8 ≤ maxLen; unfold maxLen; omega
    have HM16 : Hid (8 + 8 ≤ maxLen) := by show 8 + 8 ≤ maxLen; unfold maxLen; omega
    have HM47 : Hid ((8 + 8) * 1 ≤ 140737488355328) := by show (8 + 8) * 1 ≤ 140737488355328; omega
    have HN1 : Hid (B1.length = 8) := by show B1.length = 8; rw [← HX1.out, bytesOf_length, bigL_length]
    have HN2 : Hid (B2.length = 8 * 1) := by show B2.length = 8 * 1; rw [← HX2.out, bytesOf_length, bigL_length]
    have HO2 : Hid (∀ u ∈ B2, u.oneCell' = true) := by show ∀ u ∈ B2, u.oneCell' = true; rw [← HX2.out]; exact bytesOf_one _
    have HP1 : Hid (∀ o, ((w.alloc (.cells B1.toArray 5)).alloc o).heap[w.heap.size]? = some (.cells B1.toArray 5)) := fun o => by
      rw [show ((w.alloc (.cells B1.toArray 5)).alloc o).heap = (w.alloc (.cells B1.toArray 5)).heap.push o from rfl, Array.getElem?_push, if_neg (by rw [World.size_alloc]; omega)]
      exact heap_alloc_new _ _
    have HC2 : Hid (∀ j u, B2[j]? = some u → ((w.alloc (.cells B1.toArray 5)).alloc (.cells B2.toArray 5)).cell? ((⟨w.heap.size + 1, 0, none⟩ : Addr).add j) = some u) := fun j u hj => by
      have h := cells_alloc_add (w.alloc (.cells B1.toArray 5)) B2 5 j u hj
      rw [World.size_alloc] at h
      exact h
    go_enter Try.func34, Try.ntmps34
    go_wp2_with (first
      | (go_at_call 61; with_reducible refine (E1.out _).mono ?_; rintro e w1 ⟨rfl, rfl⟩)
      | (go_at_call 61; with_reducible refine (E2.out _).mono ?_; rintro e w1 ⟨rfl, rfl⟩)
      | (go_at_call 16; with_reducible refine (K3.out _).mono ?_; rintro e _ ⟨rfl, rfl⟩)
      | (go_at_call 15; with_reducible refine (K2.out _).mono ?_; rintro e _ ⟨rfl, rfl⟩)
      | (go_at_call 15; with_reducible refine (Mix_calls _ _).mono ?_; rintro e _ ⟨rfl, rfl⟩)
      | (at_builtin; refine wpList_append_own _ rfl _ _ _ rfl w.heap.size 5 i z 1 1 Try.underlying27 hi hz g2 g3 g4 (by decide) (.slice (some ⟨w.heap.size, 0, none⟩) 8 8) 8 B1 rfl (owns_of_heap (HP1.out _) (Nat.le_refl _) HN1.out HM8.out) ⟨w.heap.size + 1, 0, none⟩ 8 8 B2 rfl HN2.out HC2.out HO2.out HM16.out HM47.out (by go_size) ?_; intro v1 w1 hown1 hgr1 hne1))
    go_ret2
    have hl : (bigL n 8 ++ bigL m 8).length = 8 + 8 := by rw [List.length_append, bigL_length, bigL_length]
    refine ⟨v1, by rw [HE.out]; rfl, ?_, ?_⟩
    · rw [HL.out]
      refine rbytes_of_own (base := w.heap.size) (e := 5) ?_ (fun b h1 h2 => ⟨h1, h2⟩) (by rw [hl]; omega)
      rw [hl]
      rw [← HX1.out, ← HX2.out, bytesOf_append] at hown1
      exact hown1
    · exact (((Below.refl _ w).alloc (Nat.le_refl _) _).alloc (by rw [World.size_alloc]; omega) _).grown hgr1 (by rw [World.size_alloc, World.size_alloc]; omega) (ownBlock_base (owns_of_heap (HP1.out (.cells B2.toArray 5)) (Nat.le_refl _) HN1.out HM8.out))
  · have HL := Lib.hid (show tokenL s a t = [] from if_neg ho)
    have HE := Lib.hid (show tokenE t = 6 from if_neg ho)
    by_cases h0 : t < 0
    · clear ho
      go_enter Try.func34, Try.ntmps34
      go_wp2
      go_ret2
      exact ⟨_, by rw [HE.out]; rfl, by rw [HL.out]; exact rbytes_nil, Below.refl _ _⟩
    · have h1 : 1099511627776 < t := by unfold tokenOk at ho; omega
      clear ho
      go_enter Try.func34, Try.ntmps34
      go_wp2
      go_ret2
      exact ⟨_, by rw [HE.out]; rfl, by rw [HL.out]; exact rbytes_nil, Below.refl _ _⟩

set_option maxHeartbeats 2000000 in
theorem tokenOf_calls (s a t : Int) (w : World) : Calls Try.prog 35 #[.int .u64 s, .int .i64 a, .int .i64 t] w (Tok w s a t) := by
  have hU := upTo_calls t 1099511627776
  by_cases ho : tokenOk t
  · have HL := Lib.hid (show tokenL s a t = bigL t.toNat 8 ++ bigL (sealI s a t).toNat 8 from if_pos ho)
    have HE := Lib.hid (show tokenE t = 0 from if_pos ho)
    obtain ⟨h0, h1⟩ := ho
    rw [show (decide (0 ≤ t) && decide (t ≤ 1099511627776)) = true from by simp; omega] at hU
    obtain ⟨n, rfl⟩ := Int.eq_ofNat_of_zero_le h0
    obtain ⟨hm0, hm1⟩ := mix_range (bits .xor .u64 (keyI s a) (mix n))
    obtain ⟨m, hm⟩ := Int.eq_ofNat_of_zero_le hm0
    rw [show sealI s a n = (m : Int) from hm, Int.toNat_natCast, Int.toNat_natCast] at HL
    rw [hm] at hm1
    have e1 : ∀ W, Calls Try.prog 57 #[.int .u64 n, .int .i64 8] W fun e w' => e = .returned (.string (strOf (bigL n 8))) ∧ Below W.heap.size W w' := fun W => big_calls n 8 (by decide) (by omega) W
    have e2 : ∀ W, Calls Try.prog 57 #[.int .u64 m, .int .i64 8] W fun e w' => e = .returned (.string (strOf (bigL m 8))) ∧ Below W.heap.size W w' := fun W => big_calls m 8 (by decide) (by omega) W
    rw [← hm] at e2
    have k2 := Mixed_calls n
    have k3 := KeyOf_calls s a
    have l1 := bigL_length n 8
    have l2 := bigL_length m 8
    generalize bigL n 8 = L1 at *
    generalize bigL m 8 = L2 at *
    generalize mix n = Q at *
    generalize keyI s a = P at *
    have E1 := Lib.hid e1
    have E2 := Lib.hid e2
    have K2 := Lib.hid k2
    have K3 := Lib.hid k3
    have HU := Lib.hid hU
    have hadd := strOf_append L1 L2
    have hsz : (strOf L1).size + (strOf L2).size ≤ 9223372036854775807 := by rw [strOf_size, strOf_size]; omega
    have hlen : Hid ((L1 ++ L2).length ≤ 140737488355328) := by show (L1 ++ L2).length ≤ _; rw [List.length_append]; omega
    clear e1 e2 k2 k3 hm hm0 hm1 l1 l2 hU
    have hw : IntKind.u64.wrap (n : Int) = (n : Int) := by rw [IntKind.wrap_u64]; omega
    go_enter Try.func35, Try.ntmps35
    go_wp2_with (first
      | (go_at_call 56; refine (HU.out _).mono ?_; rintro e _ ⟨rfl, rfl⟩)
      | (go_at_call 57; with_reducible refine (E1.out _).mono ?_; rintro e w1 ⟨rfl, hb1⟩; have hB1 := binto (by go_grown : Below w.heap.size w _) (by go_size) hb1; obtain ⟨hc1, hd1, hz1⟩ := bcell hb1; (try simp only [World.size_alloc, World.size_setCell, World.size_drew] at hz1); have hk1 := Lib.hid hb1.block; clear hc1 hd1 hb1)
      | ((go_at_call 57; with_reducible refine (E2.out _).mono ?_; rintro e w5 ⟨rfl, hb5⟩; have hB5 := binto (by go_grown : Below w.heap.size w _) (by go_size) hb5; obtain ⟨hc5, hd5, hz5⟩ := bcell hb5; (try simp only [World.size_alloc, World.size_setCell, World.size_drew] at hz5); have hk5 := Lib.hid hb5.block; clear hc5 hd5 hb5); obtain ⟨v2, w6, hr, hv2, hb6, ⟨a2, n2, c2, rfl⟩⟩ := bytes_of_string (P := Try.prog) Try.underlying9 Try.underlying27 Try.underlying5 w5 (L1 ++ L2) hlen.out)
      | (go_at_call 18; with_reducible refine (K3.out _).mono ?_; rintro e w2 ⟨rfl, hb2⟩; have hB2 := binto (by go_grown : Below w.heap.size w _) (by go_size) hb2; obtain ⟨hc2, hd2, hz2⟩ := bcell hb2; (try simp only [World.size_alloc, World.size_setCell, World.size_drew] at hz2); have hk2 := Lib.hid hb2.block; clear hc2 hd2 hb2)
      | (go_at_call 17; with_reducible refine (K2.out _).mono ?_; rintro e w3 ⟨rfl, hb3⟩; have hB3 := binto (by go_grown : Below w.heap.size w _) (by go_size) hb3; obtain ⟨hc3, hd3, hz3⟩ := bcell hb3; (try simp only [World.size_alloc, World.size_setCell, World.size_drew] at hz3); have hk3 := Lib.hid hb3.block; clear hc3 hd3 hb3)
      | (go_at_call 17; with_reducible refine (Mixed_calls _ _).mono ?_; rintro e w4 ⟨rfl, hb4⟩; have hB4 := binto (by go_grown : Below w.heap.size w _) (by go_size) hb4; obtain ⟨hc4, hd4, hz4⟩ := bcell hb4; (try simp only [World.size_alloc, World.size_setCell, World.size_drew] at hz4); have hk4 := Lib.hid hb4.block; clear hc4 hd4 hb4))
    go_ret2
    exact ⟨_, by rw [HE.out]; rfl, by rw [HL.out]; exact RBytes.keeps _ _ _ _ _ _ (fun b hb => ⟨by have := hB5.size; omega, hb.2⟩) (fun _ _ => rfl) hv2, hB5.trans (hb6.mono hB5.size)⟩
  · have HL := Lib.hid (show tokenL s a t = [] from if_neg ho)
    have HE := Lib.hid (show tokenE t = 6 from if_neg ho)
    rw [show (decide (0 ≤ t) && decide (t ≤ 1099511627776)) = false from by unfold tokenOk at ho; simp; omega] at hU
    have HU := Lib.hid hU
    clear ho hU
    go_enter Try.func35, Try.ntmps35
    go_wp2_with (go_at_call 56; refine (HU.out _).mono ?_; rintro e _ ⟨rfl, rfl⟩)
    go_ret2
    exact ⟨_, by rw [HE.out]; rfl, by rw [HL.out]; exact rbytes_nil, Below.refl _ _⟩
end Go.Proofs.Ytmfpfpllipogiaa
