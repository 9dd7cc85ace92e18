/-
  HOW DATA LIE IN MEMORY: a slice that reads as a list, whatever its elements; what is kept where the blocks that it leads to are kept. Plain lemmas, over any program.
-/
import Derived.Test.YtmfpfpllipogiaaBase
import Derived.Handy
import Derived.Lib.Hide
import Derived.IntWalk
import Derived.BigQuiet
import Derived.Deep.QuietTactic
set_option linter.unusedSimpArgs false
set_option linter.unusedVariables false
namespace Go.Proofs.Ytmfpfpllipogiaa
open Go.ChangeShapes Go.WideShapes Go.ChangeAt Go.RowKit Go.Deep

/-- within an int64 -/
def I64 (x : Int) : Prop := -9223372036854775808 ≤ x ∧ x ≤ 9223372036854775807
/-- which blocks data may lead to -/
abbrev Foot := Nat → Prop

theorem i64_of_wf {x : Int} (h : (Lit.int .i64 x).wf = true) : I64 x := bounds_i64 h

/-- a slice reads as a list: 'size' cells an element, each read by R -/
def RSlice {α : Type} (size bytes : Nat) (R : Foot → World → List Value → α → Prop) (S : Foot) (w : World) (cs : List Value) (l : List α) : Prop :=
  ∃ A c, cs = [.slice A l.length c] ∧ l.length ≤ c ∧ c * bytes ≤ reachBytes ∧
    ∀ i (h : i < l.length), ∃ b off es, A = some ⟨b, off, none⟩ ∧ S b ∧ es.length = size ∧ (∀ j, j < size → w.cell? ⟨b, off + i * size + j, none⟩ = es[j]?) ∧ R S w es l[i]

/-- what is kept where all blocks of the foot are kept -/
def Keeps {α : Type} (R : Foot → World → List Value → α → Prop) : Prop :=
  ∀ (S S' : Foot) (w w' : World) (cs : List Value) (x : α), (∀ b, S b → S' b) → (∀ b, S b → w'.heap[b]? = w.heap[b]?) → R S w cs x → R S' w' cs x

theorem cell_of_heap {w w' : World} {b o : Nat} (h : w'.heap[b]? = w.heap[b]?) : w'.cell? ⟨b, o, none⟩ = w.cell? ⟨b, o, none⟩ := by
  simp [World.cell?, h]

theorem RSlice.keeps {α : Type} {size bytes : Nat} {R : Foot → World → List Value → α → Prop} (hR : Keeps R) : Keeps (RSlice size bytes R) := by
  intro S S' w w' cs l hS hw ⟨A, c, hcs, hl, hb, he⟩
  refine ⟨A, c, hcs, hl, hb, fun i hi => ?_⟩
  obtain ⟨b, off, es, h1, h2, h3, h4, h5⟩ := he i hi
  exact ⟨b, off, es, h1, hS b h2, h3, fun j hj => (cell_of_heap (hw b h2)).trans (h4 j hj), hR S S' w w' es _ hS hw h5⟩

/-- one address for all elements -/
theorem RSlice.open_ {α : Type} {size bytes : Nat} {R : Foot → World → List Value → α → Prop} {S : Foot} {w : World} {cs : List Value} {l : List α}
    (h : RSlice size bytes R S w cs l) : ∃ A c, cs = [.slice A l.length c] ∧ l.length ≤ c ∧ c * bytes ≤ reachBytes ∧
      (0 < l.length → ∃ b off, A = some ⟨b, off, none⟩ ∧ S b ∧ ∀ i (h : i < l.length), ∃ es, es.length = size ∧ (∀ j, j < size → w.cell? ⟨b, off + i * size + j, none⟩ = es[j]?) ∧ R S w es l[i]) := by
  obtain ⟨A, c, hcs, hl, hb, he⟩ := h
  refine ⟨A, c, hcs, hl, hb, fun h0 => ?_⟩
  obtain ⟨b, off, es, h1, h2, _⟩ := he 0 h0
  refine ⟨b, off, h1, h2, fun i hi => ?_⟩
  obtain ⟨b', off', es', h1', h2', h3', h4', h5'⟩ := he i hi
  rw [h1] at h1'
  injection h1' with h1'
  injection h1' with e1 e2
  subst e1; subst e2
  exact ⟨es', h3', h4', h5'⟩

/-- a byte -/
def RByte (_ : Foot) (_ : World) (cs : List Value) (x : UInt8) : Prop := cs = [.int .u8 (x.toNat : Int)]
theorem RByte.keeps : Keeps RByte := fun _ _ _ _ _ _ _ _ h => h
abbrev RBytes := RSlice 1 1 RByte
theorem RBytes.keeps : Keeps RBytes := RSlice.keeps RByte.keeps

/-- an int -/
def RInt (_ : Foot) (_ : World) (cs : List Value) (x : Int) : Prop := cs = [.int .i64 x] ∧ I64 x
theorem RInt.keeps : Keeps RInt := fun _ _ _ _ _ _ _ _ h => h

/-- what a callee's world still holds of the caller's -/
theorem bcell {W w1 : World} (hb : Below W.heap.size W w1) : (∀ b o, b < W.heap.size → w1.cell? ⟨b, o, none⟩ = W.cell? ⟨b, o, none⟩) ∧
    (∀ b o, b < W.heap.size → w1.frozen? ⟨b, o, none⟩ = W.frozen? ⟨b, o, none⟩) ∧ W.heap.size ≤ w1.heap.size :=
  ⟨fun b o h => hb.cell (p := ⟨b, o, none⟩) h, fun b o h => hb.frozen (p := ⟨b, o, none⟩) h, hb.size⟩
theorem binto {B : Nat} {w0 W w1 : World} (h : Below B w0 W) (hB : B ≤ W.heap.size) (hb : Below W.heap.size W w1) : Below B w0 w1 := h.trans (hb.mono hB)
theorem ret_int {k : IntKind} {a b : Int} (h : a = b) : Ending.returned (.int k a) = .returned (.int k b) := by rw [h]
theorem ret_bool {a b : Bool} (h : a = b) : Ending.returned (.bool a) = .returned (.bool b) := by rw [h]

/-- an argument's slice as a list -/
theorem rslice_of_cells {α : Type} {P : Program} {W : World} {t e : TypeId} {cs : List Value} {R : Foot → World → List Value → α → Prop} {size bytes : Nat}
    (hu : P.underlying t = some (.slice e)) (hs : P.cellsOf e = size) (hb : P.bytesOf e = bytes) (hpos : 0 < size)
    (hR : ∀ es, Cells P W e es → ∃ x, R (fun b => b < W.heap.size) W es x) (h : Cells P W t cs) : ∃ l : List α, RSlice size bytes R (fun b => b < W.heap.size) W cs l := by
  rcases h.slice_ hu with rfl | ⟨a, len, cap, rfl, hl, hc, he⟩
  · exact ⟨[], none, 0, rfl, Nat.le_refl _, by omega, fun i hi => by simp at hi⟩
  · rw [hs] at he
    rw [hb] at hc
    have hx : ∀ i, i < len → ∃ x es, es.length = size ∧ (∀ j, j < size → W.cell? ((a.add (i * size)).add j) = es[j]?) ∧ R (fun b => b < W.heap.size) W es x := fun i hi => by
      obtain ⟨es, h1, h2, h3⟩ := he i (by omega)
      obtain ⟨x, hx⟩ := hR es h3
      exact ⟨x, es, h1, h2, hx⟩
    have hl' : ∃ l : List α, l.length = len ∧ ∀ i (h : i < l.length), ∃ es, es.length = size ∧ (∀ j, j < size → W.cell? ((a.add (i * size)).add j) = es[j]?) ∧ R (fun b => b < W.heap.size) W es l[i] := by
      clear hl hc he h
      induction len with
      | zero => exact ⟨[], rfl, fun i hi => by simp at hi⟩
      | succ n ih =>
        obtain ⟨l, hl, hl2⟩ := ih (fun i hi => hx i (by omega))
        obtain ⟨x, es, h1, h2, h3⟩ := hx n (by omega)
        refine ⟨l ++ [x], by simp [hl], fun i hi => ?_⟩
        simp at hi
        by_cases hin : i < l.length
        · rw [List.getElem_append_left hin]
          exact hl2 i hin
        · have : i = n := by omega
          subst this
          refine ⟨es, h1, h2, ?_⟩
          rw [List.getElem_append_right (by omega)]
          simpa [hl] using h3
    obtain ⟨l, hll, hl2⟩ := hl'
    subst hll
    refine ⟨l, some a, cap, rfl, hl, hc, fun i hi => ?_⟩
    obtain ⟨es, h1, h2, h3⟩ := hl2 i hi
    have h20 := h2 0 hpos
    rw [List.getElem?_eq_getElem (by omega)] at h20
    have hsp : a.spot = none := by
      obtain ⟨es0, g1, g2, _⟩ := hl2 0 (by omega)
      have g := g2 0 hpos
      rw [List.getElem?_eq_getElem (by omega)] at g
      have := World.cell?_spot g
      simpa [Addr.add] using this
    obtain ⟨b, off, spot⟩ := a
    simp only at hsp
    subst hsp
    have hadd : ∀ j, ((Addr.mk b off none).add (i * size)).add j = ⟨b, off + i * size + j, none⟩ := fun j => by
      unfold Addr.add
      by_cases e1 : i * size = 0 <;> by_cases e2 : j = 0 <;> simp [e1, e2]
    refine ⟨b, off, es, rfl, ?_, h1, fun j hj => by rw [← hadd]; exact h2 j hj, h3⟩
    rw [hadd] at h20
    unfold World.cell? at h20
    by_cases hlt : b < W.heap.size
    · exact hlt
    · simp [Array.getElem?_eq_none (by omega : W.heap.size ≤ b)] at h20

theorem rbyte_of_cells {P : Program} {W : World} {t : TypeId} {S : Foot} (hu : P.underlying t = some (.int .u8)) (es : List Value) (h : Cells P W t es) : ∃ x, RByte S W es x := by
  obtain ⟨n, rfl, hw⟩ := h.int_ hu
  have := bounds_u8 hw
  refine ⟨UInt8.ofNat n.toNat, ?_⟩
  unfold RByte
  have e : (UInt8.ofNat n.toNat).toNat = n.toNat := by
    rw [UInt8.toNat_ofNat']
    omega
  rw [e]
  have : ((n.toNat : Nat) : Int) = n := by omega
  rw [this]

theorem rint_of_cells {P : Program} {W : World} {t : TypeId} {S : Foot} (hu : P.underlying t = some (.int .i64)) (es : List Value) (h : Cells P W t es) : ∃ x, RInt S W es x := by
  obtain ⟨n, rfl, hw⟩ := h.int_ hu
  exact ⟨n, rfl, i64_of_wf hw⟩

/-- a callee that leaves the world alone, in a region that draws its order -/
theorem quiet_left {P : Program} {f : FuncId} {args : Array Value} {w : World} {n : Nat} {v : Value} (h : Calls P f args (w.drewN n) fun e w' => e = .returned v ∧ w.drewN n = w') :
    Calls P f args (w.drewN n) fun e w' => e = .returned v ∧ ∃ m, w' = w.drewN m := h.mono fun _ _ h => ⟨h.1, n, h.2.symm⟩
theorem below_drewN {B : Nat} {a w : World} (h : Below B a w) (n : Nat) : Below B a (w.drewN n) := ⟨h.os, h.tape, h.output, h.size, h.block⟩

/-! ### Bytes and strings -/
/-- byte i of a list -/
def byteAt (l : List UInt8) (i : Nat) : Nat := (l.getD i 0).toNat
theorem byteAt_lt (l : List UInt8) (i : Nat) : byteAt l i < 256 := (l.getD i 0).toNat_lt

theorem RBytes.at_ {S : Foot} {w : World} {cs : List Value} {l : List UInt8} (h : RBytes S w cs l) :
    ∃ A c, cs = [.slice A l.length c] ∧ l.length ≤ c ∧ c ≤ reachBytes ∧
      (0 < l.length → ∃ b off, A = some ⟨b, off, none⟩ ∧ S b ∧ ∀ i, i < l.length → w.cell? ⟨b, off + i, none⟩ = some (.int .u8 (byteAt l i))) := by
  obtain ⟨A, c, rfl, hl, hc, he⟩ := h.open_
  refine ⟨A, c, rfl, hl, by omega, fun h0 => ?_⟩
  obtain ⟨b, off, rfl, hS, hi⟩ := he h0
  refine ⟨b, off, rfl, hS, fun i hlt => ?_⟩
  obtain ⟨es, h1, h2, h3⟩ := hi i hlt
  have := h2 0 (by omega)
  rw [h3] at this
  simp only [Nat.mul_one, Nat.add_zero, List.getElem?_cons_zero] at this
  rw [this]
  unfold byteAt
  rw [List.getD_eq_getElem?_getD, List.getElem?_eq_getElem hlt, Option.getD_some]


/-- the string of bytes -/
def strOf (l : List UInt8) : ByteArray := ⟨l.toArray⟩
theorem strOf_list (l : List UInt8) : (strOf l).data.toList = l := by simp [strOf]
theorem strOf_size (l : List UInt8) : (strOf l).size = l.length := by simp [strOf, ByteArray.size]
theorem strOf_self (s : ByteArray) : strOf s.data.toList = s := by cases s; simp [strOf]
theorem list_size (s : ByteArray) : s.data.toList.length = s.size := Array.length_toList
/-- the walk's s[n] as a byte of the list -/
theorem get_at (s : ByteArray) : ∀ (n : Nat) (h : n < s.size), ((s[n]'h).toNat : Int) = (byteAt s.data.toList n : Int) := fun n h => by
  unfold byteAt
  rw [List.getD_eq_getElem?_getD, List.getElem?_eq_getElem (by rw [list_size]; exact h), Option.getD_some]
  rfl
theorem extract_list (s : ByteArray) (a b : Nat) : (s.extract a b).data.toList = (s.data.toList.take b).drop a := by
  rw [ByteArray.data_extract, Array.toList_extract, List.extract_eq_take_drop, List.drop_take]

theorem foldl_push (l : List UInt8) : ∀ s : ByteArray, (l.map fun c => (c.toNat : Int)).foldl (fun r n => r.push (UInt8.ofNat n.toNat)) s = ⟨(s.data.toList ++ l).toArray⟩ := by
  induction l with
  | nil => intro s; cases s; simp
  | cons c l ih =>
    intro s
    simp only [List.map_cons, List.foldl_cons]
    rw [ih]
    simp [ByteArray.push]

theorem run_string_of {P : Program} {S : Foot} {w : World} {src dst e : TypeId} {v : Value} {l : List UInt8}
    (hs : P.underlying src = some (.slice e)) (he : P.underlying e = some (.int .u8)) (hd : P.underlying dst = some .string) (h : RBytes S w [v] l) :
    (convert src dst v).run P w = .ok (.string (strOf l)) w := by
  obtain ⟨A, c, hv, hl, hcr, hc⟩ := h.at_
  injection hv with hv _
  subst hv
  rw [run_convert_bytes_string w src dst e A l.length c hs he hd]
  rcases Nat.eq_zero_or_pos l.length with h0 | h0
  · have : l = [] := List.eq_nil_of_length_eq_zero h0
    subst this
    cases A with
    | none => rfl
    | some a =>
      have := run_bytesToString (P := P) w a 0 c [] (by rfl)
      rw [List.length_nil, this]
      rfl
  · obtain ⟨b, off, rfl, _, hcell⟩ := hc h0
    have hload := run_loadCells_list (P := P) (w := w) ⟨b, off, none⟩ (l.map fun c => Value.int .u8 (c.toNat : Int)) (fun j v hj => by
      rw [List.getElem?_map] at hj
      cases hx : l[j]? with
      | none => rw [hx] at hj; simp at hj
      | some x =>
        rw [hx] at hj
        simp only [Option.map_some, Option.some.injEq] at hj
        have hlt : j < l.length := (List.getElem?_eq_some_iff.1 hx).1
        have := hcell j hlt
        have e1 : (Addr.mk b off none).add j = ⟨b, off + j, none⟩ := by unfold Addr.add; by_cases e2 : j = 0 <;> simp [e2]
        rw [e1, this, ← hj]
        unfold byteAt
        rw [List.getD_eq_getElem?_getD, hx, Option.getD_some])
    rw [List.length_map] at hload
    have := run_bytesToString (P := P) w ⟨b, off, none⟩ l.length c (l.map fun c => (c.toNat : Int)) (by rw [hload, List.map_map]; rfl)
    rw [this, foldl_push]
    rfl

/-! ### What many functions call -/
set_option maxHeartbeats 400000 in
theorem upTo_calls (a b : Int) (w : World) :
    Calls Try.prog 56 #[.int .i64 a, .int .i64 b] w fun e w' => e = .returned (.bool (decide (0 ≤ a) && decide (a ≤ b))) ∧ w = w' := by
  go_enter Try.func56, Try.ntmps56
  go_wp2
  all_goals
    go_ret
    refine ⟨ret_bool ?_, rfl⟩
    first | (simp [*]; done) | (simp; omega)
end Go.Proofs.Ytmfpfpllipogiaa
