/-
  A number's bytes, the highest first: the reference's big. No condition.
-/
import Derived.Test.YtmfpfpllipogiaaRep
set_option linter.unusedSimpArgs false
set_option linter.unusedVariables false
namespace Go.Proofs.Ytmfpfpllipogiaa
open Go.RowKit

/-- the lowest k bytes of a number, the highest of them first -/
def bigL (n : Nat) : Nat → List UInt8
  | 0 => []
  | k + 1 => UInt8.ofNat (n / 256 ^ k) :: bigL n k
theorem bigL_length (n : Nat) : ∀ k, (bigL n k).length = k
  | 0 => rfl
  | k + 1 => by show (bigL n k).length + 1 = k + 1; rw [bigL_length n k]
theorem bigL_get (n : Nat) : ∀ k j (h : j < (bigL n k).length), (bigL n k)[j] = UInt8.ofNat (n / 256 ^ (k - 1 - j))
  | 0, j, h => by simp [bigL] at h
  | k + 1, 0, h => by simp [bigL]
  | k + 1, j + 1, h => by
    have h' : j < (bigL n k).length := by simpa [bigL] using h
    have := bigL_get n k j h'
    have e : (bigL n (k + 1))[j + 1] = (bigL n k)[j] := by simp [bigL]
    rw [e, this, show k + 1 - 1 - (j + 1) = k - 1 - j from by omega]
/-- bytes as cells -/
def bytesOf (l : List UInt8) : List Value := l.map fun c => .int .u8 (c.toNat : Int)
theorem ofNat_toNat (m : Nat) : ((UInt8.ofNat m).toNat : Int) = (m : Int) % 256 := by
  rw [UInt8.toNat_ofNat']
  omega
theorem bytesOf_take (n k j : Nat) (h : j < k) : bytesOf ((bigL n k).take (j + 1)) = bytesOf ((bigL n k).take j) ++ [.int .u8 ((n : Int) / 2 ^ (8 * (k - 1 - j)) % 256)] := by
  have hl : j < (bigL n k).length := by rw [bigL_length]; exact h
  unfold bytesOf
  rw [List.take_succ_eq_append_getElem hl, List.map_append, bigL_get, List.map_cons, List.map_nil, ofNat_toNat, Int.natCast_ediv, show ((256 ^ (k - 1 - j) : Nat) : Int) = 2 ^ (8 * (k - 1 - j)) from by rw [Int.pow_mul, Int.natCast_pow]; rfl]
theorem strOf_cons (c : UInt8) (l : List UInt8) : strOf [c] ++ strOf l = strOf (c :: l) := by
  apply ByteArray.ext
  simp [strOf]

theorem byteAt_one (x : Nat) (hx : x < 256) : ((UInt8.ofNat x).toNat : Int) = (x : Int) := by
  rw [UInt8.toNat_ofNat']
  omega
theorem ofNat_mod (M : Nat) : UInt8.ofNat (M % 256) = UInt8.ofNat M := by
  apply UInt8.toNat_inj.1
  rw [UInt8.toNat_ofNat', UInt8.toNat_ofNat']
  omega
/-- one byte as a string -/
theorem run_string_one {P : Program} {src dst e : TypeId} (hs : P.underlying src = some (.slice e)) (he : P.underlying e = some (.int .u8)) (hd : P.underlying dst = some .string) (W : World) (x : Nat) (hx : x < 256) :
    (convert src dst (.slice (some ⟨W.heap.size, 0, none⟩) 1 1)).run P (W.alloc (.cells #[.int .u8 (x : Int)] e)) = .ok (.string (strOf [UInt8.ofNat x])) (W.alloc (.cells #[.int .u8 (x : Int)] e)) := by
  refine run_string_of (S := fun _ => True) hs he hd ⟨_, 1, rfl, Nat.le_refl _, by unfold maxLen; omega, by simp, fun i hi => ?_⟩
  have : i = 0 := by simpa using hi
  subst this
  refine ⟨W.heap.size, 0, [.int .u8 (x : Int)], rfl, trivial, rfl, fun j hj => ?_, ?_⟩
  · have : j = 0 := by omega
    subst this
    have e1 : (W.alloc (.cells #[.int .u8 (x : Int)] e)).heap[W.heap.size]? = some (.cells #[.int .u8 (x : Int)] e) := heap_alloc_new W _
    unfold World.cell?
    simp only [Nat.zero_mul, Nat.add_zero, e1]
    rfl
  · show [Value.int .u8 (x : Int)] = [.int .u8 ((UInt8.ofNat x).toNat : Int)]
    rw [byteAt_one x hx]

set_option maxHeartbeats 1000000 in
theorem big_calls (n k : Nat) (hk : k ≤ 8) (hn : n < 18446744073709551616) (w : World) :
    Calls Try.prog 57 #[.int .u64 n, .int .i64 k] w fun e w' => e = .returned (.string (strOf (bigL n k))) ∧ Below w.heap.size w w' := by
  have hone := run_string_one (P := Try.prog) Try.underlying27 Try.underlying5 Try.underlying9
  have hkI : (k : Int) ≤ 8 := by omega
  go_enter Try.func57, Try.ntmps57
  go_wp2
  go_loopw [0, 5, 7] (fun m s i wr => ∃ j : Nat, j ≤ k ∧ i = .int .i64 j ∧ m = .int .u64 ((n / 256 ^ j : Nat) : Int) ∧ s = .string (strOf (bigL n j)) ∧ Below w.heap.size w wr) (fun _ _ i _ => k - (intOf i).toNat)
  case atStart => exact ⟨0, by omega, by go_num, by simp, rfl, Below.refl _ _⟩
  case round =>
    obtain ⟨j, hj, rfl, rfl, rfl, hb⟩ := hrel
    have hbz := hb.size
    have hm : n / 256 ^ j < 18446744073709551616 := Nat.lt_of_le_of_lt (Nat.div_le_self _ _) hn
    have HD := Lib.hid (show n / 256 ^ (j + 1) = n / 256 ^ j / 256 by rw [Nat.pow_succ, Nat.div_div_eq_div_mul])
    have HL := Lib.hid (show bigL n (j + 1) = UInt8.ofNat (n / 256 ^ j) :: bigL n j from rfl)
    generalize n / 256 ^ j = M at *
    generalize hLL : bigL n j = L at *
    have HLL := Lib.hid hLL
    clear hLL
    have hx := hone wr (M % 256) (Nat.mod_lt _ (by omega))
    rw [show ((M % 256 : Nat) : Int) = (M : Int) % 256 from by omega, show UInt8.ofNat (M % 256) = UInt8.ofNat M from ofNat_mod M] at hx
    clear hone
    by_cases hjj : j < k
    · have hadd := strOf_cons (UInt8.ofNat M) L
      have hsz : (strOf [UInt8.ofNat M]).size + (strOf L).size ≤ 9223372036854775807 := by
        rw [strOf_size, strOf_size, ← HLL.out, bigL_length, List.length_singleton]
        omega
      go_wp2
      refine ⟨⟨j + 1, by omega, by go_num, ?_, ?_, by go_grown⟩, by simp [intOf]; omega⟩
      · rw [HD.out]; simp
      · rw [HL.out]
    · have HK := Lib.hid (show j = k by omega)
      go_wp2
      go_ret
      refine ⟨?_, by go_grown⟩
      rw [← HK.out, HLL.out]
      rfl
end Go.Proofs.Ytmfpfpllipogiaa
