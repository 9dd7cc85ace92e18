/-
  HOW DATA LIE IN MEMORY: a slice that reads as a list, whatever its elements; what is kept where the blocks that it leads to are kept. Plain lemmas, over any program.
-/
import Derived.Test.YthgmpeilolephaaBase
import Derived.Handy
import Derived.Lib.Hide
import Derived.IntWalk
import Derived.Laws.IdiomStrings
import Derived.BigQuiet
import Derived.Deep.QuietTactic
set_option linter.unusedSimpArgs false
set_option linter.unusedVariables false
namespace Go.Proofs.Ythgmpeilolephaa
open Go.ChangeShapes Go.WideShapes Go.ChangeAt Go.RowKit Go.Deep

/-- within an int64 -/
def I64 (x : Int) : Prop := -9223372036854775808 ≤ x ∧ x ≤ 9223372036854775807
/-- which blocks data may lead to -/
abbrev Foot := Nat → Prop

theorem i64_of_wf {x : Int} (h : (Lit.int .i64 x).wf = true) : I64 x := bounds_i64 h

/-- a slice reads as a list: 'size' cells an element, each read by R -/
def RSlice {α : Type} (size bytes : Nat) (R : Foot → World → List Value → α → Prop) (S : Foot) (w : World) (cs : List Value) (l : List α) : Prop :=
  ∃ A c, cs = [.slice A l.length c] ∧ l.length ≤ c ∧ c ≤ maxLen ∧ l.length * bytes ≤ 140737488355328 ∧
    ∀ i (h : i < l.length), ∃ b off es, A = some ⟨b, off, none⟩ ∧ S b ∧ es.length = size ∧ (∀ j, j < size → w.cell? ⟨b, off + i * size + j, none⟩ = es[j]?) ∧ R S w es l[i]

/-- what is kept where all blocks of the foot are kept -/
def Keeps {α : Type} (R : Foot → World → List Value → α → Prop) : Prop :=
  ∀ (S S' : Foot) (w w' : World) (cs : List Value) (x : α), (∀ b, S b → S' b) → (∀ b, S b → w'.heap[b]? = w.heap[b]?) → R S w cs x → R S' w' cs x

theorem cell_of_heap {w w' : World} {b o : Nat} (h : w'.heap[b]? = w.heap[b]?) : w'.cell? ⟨b, o, none⟩ = w.cell? ⟨b, o, none⟩ := by
  simp [World.cell?, h]

theorem RSlice.keeps {α : Type} {size bytes : Nat} {R : Foot → World → List Value → α → Prop} (hR : Keeps R) : Keeps (RSlice size bytes R) := by
  intro S S' w w' cs l hS hw ⟨A, c, hcs, hl, hm, hb, he⟩
  refine ⟨A, c, hcs, hl, hm, hb, fun i hi => ?_⟩
  obtain ⟨b, off, es, h1, h2, h3, h4, h5⟩ := he i hi
  exact ⟨b, off, es, h1, hS b h2, h3, fun j hj => (cell_of_heap (hw b h2)).trans (h4 j hj), hR S S' w w' es _ hS hw h5⟩

/-- one address for all elements -/
theorem RSlice.open_ {α : Type} {size bytes : Nat} {R : Foot → World → List Value → α → Prop} {S : Foot} {w : World} {cs : List Value} {l : List α}
    (h : RSlice size bytes R S w cs l) : ∃ A c, cs = [.slice A l.length c] ∧ l.length ≤ c ∧ c ≤ maxLen ∧ l.length * bytes ≤ 140737488355328 ∧
      (0 < l.length → ∃ b off, A = some ⟨b, off, none⟩ ∧ S b ∧ ∀ i (h : i < l.length), ∃ es, es.length = size ∧ (∀ j, j < size → w.cell? ⟨b, off + i * size + j, none⟩ = es[j]?) ∧ R S w es l[i]) := by
  obtain ⟨A, c, hcs, hl, hm, hb, he⟩ := h
  refine ⟨A, c, hcs, hl, hm, hb, fun h0 => ?_⟩
  obtain ⟨b, off, es, h1, h2, _⟩ := he 0 h0
  refine ⟨b, off, h1, h2, fun i hi => ?_⟩
  obtain ⟨b', off', es', h1', h2', h3', h4', h5'⟩ := he i hi
  rw [h1] at h1'
  injection h1' with h1'
  injection h1' with e1 e2
  subst e1; subst e2
  exact ⟨es', h3', h4', h5'⟩

/-- a byte -/
def RByte (_ : Foot) (_ : World) (cs : List Value) (x : UInt8) : Prop := cs = [.int .u8 (x.toNat : Int)]
theorem RByte.keeps : Keeps RByte := fun _ _ _ _ _ _ _ _ h => h
abbrev RBytes := RSlice 1 1 RByte
theorem RBytes.keeps : Keeps RBytes := RSlice.keeps RByte.keeps

/-- an int -/
def RInt (_ : Foot) (_ : World) (cs : List Value) (x : Int) : Prop := cs = [.int .i64 x] ∧ I64 x
theorem RInt.keeps : Keeps RInt := fun _ _ _ _ _ _ _ _ h => h

/-- what a callee's world still holds of the caller's -/
theorem bcell {W w1 : World} (hb : Below W.heap.size W w1) : (∀ b o, b < W.heap.size → w1.cell? ⟨b, o, none⟩ = W.cell? ⟨b, o, none⟩) ∧
    (∀ b o, b < W.heap.size → w1.frozen? ⟨b, o, none⟩ = W.frozen? ⟨b, o, none⟩) ∧ W.heap.size ≤ w1.heap.size :=
  ⟨fun b o h => hb.cell (p := ⟨b, o, none⟩) h, fun b o h => hb.frozen (p := ⟨b, o, none⟩) h, hb.size⟩
theorem binto {B : Nat} {w0 W w1 : World} (h : Below B w0 W) (hB : B ≤ W.heap.size) (hb : Below W.heap.size W w1) : Below B w0 w1 := h.trans (hb.mono hB)
theorem ret_int {k : IntKind} {a b : Int} (h : a = b) : Ending.returned (.int k a) = .returned (.int k b) := by rw [h]
theorem ret_bool {a b : Bool} (h : a = b) : Ending.returned (.bool a) = .returned (.bool b) := by rw [h]

/-- an argument's slice as a list -/
theorem rslice_of_cells {α : Type} {P : Program} {W : World} {t e : TypeId} {cs : List Value} {R : Foot → World → List Value → α → Prop} {size bytes : Nat}
    (hu : P.underlying t = some (.slice e)) (hs : P.cellsOf e = size) (hb : P.bytesOf e = bytes) (hpos : 0 < size)
    (hR : ∀ es, Cells P W e es → ∃ x, R (fun b => b < W.heap.size) W es x) (h : Cells P W t cs) : ∃ l : List α, RSlice size bytes R (fun b => b < W.heap.size) W cs l ∧ l.length * bytes ≤ reachBytes := by
  rcases h.slice_ hu with rfl | ⟨a, len, cap, rfl, hl, hmax, hc, he⟩
  · exact ⟨[], ⟨none, 0, rfl, Nat.le_refl _, by unfold maxLen; omega, by rw [List.length_nil]; omega, fun i hi => by simp at hi⟩, by rw [List.length_nil]; omega⟩
  · rw [hs] at he
    rw [hb] at hc
    have hx : ∀ i, i < len → ∃ x es, es.length = size ∧ (∀ j, j < size → W.cell? ((a.add (i * size)).add j) = es[j]?) ∧ R (fun b => b < W.heap.size) W es x := fun i hi => by
      obtain ⟨es, h1, h2, h3⟩ := he i (by omega)
      obtain ⟨x, hx⟩ := hR es h3
      exact ⟨x, es, h1, h2, hx⟩
    have hl' : ∃ l : List α, l.length = len ∧ ∀ i (h : i < l.length), ∃ es, es.length = size ∧ (∀ j, j < size → W.cell? ((a.add (i * size)).add j) = es[j]?) ∧ R (fun b => b < W.heap.size) W es l[i] := by
      clear hl hc he h
      induction len with
      | zero => exact ⟨[], rfl, fun i hi => by simp at hi⟩
      | succ n ih =>
        obtain ⟨l, hl, hl2⟩ := ih (fun i hi => hx i (by omega))
        obtain ⟨x, es, h1, h2, h3⟩ := hx n (by omega)
        refine ⟨l ++ [x], by simp [hl], fun i hi => ?_⟩
        simp at hi
        by_cases hin : i < l.length
        · rw [List.getElem_append_left hin]
          exact hl2 i hin
        · have : i = n := by omega
          subst this
          refine ⟨es, h1, h2, ?_⟩
          rw [List.getElem_append_right (by omega)]
          simpa [hl] using h3
    obtain ⟨l, hll, hl2⟩ := hl'
    subst hll
    have hlb : l.length * bytes ≤ reachBytes := Nat.le_trans (Nat.mul_le_mul_right _ hl) hc
    refine ⟨l, ⟨some a, cap, rfl, hl, hmax, by unfold reachBytes at hlb; omega, fun i hi => ?_⟩, hlb⟩
    obtain ⟨es, h1, h2, h3⟩ := hl2 i hi
    have h20 := h2 0 hpos
    rw [List.getElem?_eq_getElem (by omega)] at h20
    have hsp : a.spot = none := by
      obtain ⟨es0, g1, g2, _⟩ := hl2 0 (by omega)
      have g := g2 0 hpos
      rw [List.getElem?_eq_getElem (by omega)] at g
      have := World.cell?_spot g
      simpa [Addr.add] using this
    obtain ⟨b, off, spot⟩ := a
    simp only at hsp
    subst hsp
    have hadd : ∀ j, ((Addr.mk b off none).add (i * size)).add j = ⟨b, off + i * size + j, none⟩ := fun j => by
      unfold Addr.add
      by_cases e1 : i * size = 0 <;> by_cases e2 : j = 0 <;> simp [e1, e2]
    refine ⟨b, off, es, rfl, ?_, h1, fun j hj => by rw [← hadd]; exact h2 j hj, h3⟩
    rw [hadd] at h20
    unfold World.cell? at h20
    by_cases hlt : b < W.heap.size
    · exact hlt
    · simp [Array.getElem?_eq_none (by omega : W.heap.size ≤ b)] at h20

theorem rbyte_of_cells {P : Program} {W : World} {t : TypeId} {S : Foot} (hu : P.underlying t = some (.int .u8)) (es : List Value) (h : Cells P W t es) : ∃ x, RByte S W es x := by
  obtain ⟨n, rfl, hw⟩ := h.int_ hu
  have := bounds_u8 hw
  refine ⟨UInt8.ofNat n.toNat, ?_⟩
  unfold RByte
  have e : (UInt8.ofNat n.toNat).toNat = n.toNat := by
    rw [UInt8.toNat_ofNat']
    omega
  rw [e]
  have : ((n.toNat : Nat) : Int) = n := by omega
  rw [this]

theorem rint_of_cells {P : Program} {W : World} {t : TypeId} {S : Foot} (hu : P.underlying t = some (.int .i64)) (es : List Value) (h : Cells P W t es) : ∃ x, RInt S W es x := by
  obtain ⟨n, rfl, hw⟩ := h.int_ hu
  exact ⟨n, rfl, i64_of_wf hw⟩

/-- a callee that leaves the world alone, in a region that draws its order -/
theorem quiet_left {P : Program} {f : FuncId} {args : Array Value} {w : World} {n : Nat} {v : Value} (h : Calls P f args (w.drewN n) fun e w' => e = .returned v ∧ w.drewN n = w') :
    Calls P f args (w.drewN n) fun e w' => e = .returned v ∧ ∃ m, w' = w.drewN m := h.mono fun _ _ h => ⟨h.1, n, h.2.symm⟩
theorem below_drewN {B : Nat} {a w : World} (h : Below B a w) (n : Nat) : Below B a (w.drewN n) := ⟨h.os, h.tape, h.output, h.size, h.block⟩

/-! ### A region that draws its order, whose operations only read or make new memory: one walk, in the order of the text -/
/-- nothing that was there has turned -/
def Since (w W : World) : Prop := Below w.heap.size w W
theorem Since.cell {w W : World} (h : Since w W) (b : Nat) (hb : b < w.heap.size) (o : Nat) : W.cell? ⟨b, o, none⟩ = w.cell? ⟨b, o, none⟩ := Below.cell (p := ⟨b, o, none⟩) h hb
theorem Since.into {w W W' : World} (h : Since w W) (hb : Below W.heap.size W W') : Since w W' := binto h (Below.size h) hb
theorem wp_region_below {P : Program} {id : Nat} {Q : Exit → Act → World → Prop} {a : Act} {w : World} {l : List Oper} (hm : P.follows .mixedOrders = true) (hB : Region.lexB .any l.toArray = true)
    (h : wpQuiet P l.toArray (Since w) (fun a' => ∀ w', Since w w' → Q .normal a' w') l a) : (Code.region id l.toArray true).wp P Q a w :=
  wp_region_quiet (C := Since w) hm hB ((Below.refl _ w).drew) (by simpa using h)
section
variable {P : Program} {ops : Array Oper} {C : World → Prop} {Q : Act → Prop} {o : Oper} {rest : List Oper} {a : Act}
theorem quiet_yes (hw : Region.wanted o (yielded ops a.tmps) = true) (h : ∀ K : Act → Prop, (∀ a, wpQuiet P ops C Q rest a → K a) → o.quiet P a C K) : wpQuiet P ops C Q (o :: rest) a :=
  wpQuiet_step fun K hK => by rw [if_pos hw]; exact h K hK
theorem quiet_no (hw : Region.wanted o (yielded ops a.tmps) = false) (h : ∀ K : Act → Prop, (∀ a, wpQuiet P ops C Q rest a → K a) → K (a.put o.dst undef)) : wpQuiet P ops C Q (o :: rest) a :=
  wpQuiet_step fun K hK => by rw [if_neg (by rw [hw]; exact Bool.false_ne_true)]; exact h K hK
end

/-! ### Bytes and strings -/
/-- byte i of a list -/
def byteAt (l : List UInt8) (i : Nat) : Nat := (l.getD i 0).toNat
theorem byteAt_lt (l : List UInt8) (i : Nat) : byteAt l i < 256 := (l.getD i 0).toNat_lt

theorem RBytes.at_ {S : Foot} {w : World} {cs : List Value} {l : List UInt8} (h : RBytes S w cs l) :
    ∃ A c, cs = [.slice A l.length c] ∧ l.length ≤ c ∧ c ≤ 9223372036854775807 ∧ l.length ≤ 140737488355328 ∧
      (0 < l.length → ∃ b off, A = some ⟨b, off, none⟩ ∧ S b ∧ ∀ i, i < l.length → w.cell? ⟨b, off + i, none⟩ = some (.int .u8 (byteAt l i))) := by
  obtain ⟨A, c, rfl, hl, hm, hc, he⟩ := h.open_
  unfold maxLen at hm
  refine ⟨A, c, rfl, hl, hm, by omega, fun h0 => ?_⟩
  obtain ⟨b, off, rfl, hS, hi⟩ := he h0
  refine ⟨b, off, rfl, hS, fun i hlt => ?_⟩
  obtain ⟨es, h1, h2, h3⟩ := hi i hlt
  have := h2 0 (by omega)
  rw [h3] at this
  simp only [Nat.mul_one, Nat.add_zero, List.getElem?_cons_zero] at this
  rw [this]
  unfold byteAt
  rw [List.getD_eq_getElem?_getD, List.getElem?_eq_getElem hlt, Option.getD_some]


/-- the string of bytes -/
def strOf (l : List UInt8) : ByteArray := ⟨l.toArray⟩
theorem strOf_list (l : List UInt8) : (strOf l).data.toList = l := by simp [strOf]
theorem strOf_size (l : List UInt8) : (strOf l).size = l.length := by simp [strOf, ByteArray.size]
theorem strOf_self (s : ByteArray) : strOf s.data.toList = s := by cases s; simp [strOf]
theorem list_size (s : ByteArray) : s.data.toList.length = s.size := Array.length_toList
/-- the walk's s[n] as a byte of the list -/
theorem get_at (s : ByteArray) : ∀ (n : Nat) (h : n < s.size), ((s[n]'h).toNat : Int) = (byteAt s.data.toList n : Int) := fun n h => by
  unfold byteAt
  rw [List.getD_eq_getElem?_getD, List.getElem?_eq_getElem (by rw [list_size]; exact h), Option.getD_some]
  rfl
theorem extract_list (s : ByteArray) (a b : Nat) : (s.extract a b).data.toList = (s.data.toList.take b).drop a := by
  rw [ByteArray.data_extract, Array.toList_extract, List.extract_eq_take_drop, List.drop_take]

theorem foldl_push (l : List UInt8) : ∀ s : ByteArray, (l.map fun c => (c.toNat : Int)).foldl (fun r n => r.push (UInt8.ofNat n.toNat)) s = ⟨(s.data.toList ++ l).toArray⟩ := by
  induction l with
  | nil => intro s; cases s; simp
  | cons c l ih =>
    intro s
    simp only [List.map_cons, List.foldl_cons]
    rw [ih]
    simp [ByteArray.push]

theorem run_string_of {P : Program} {S : Foot} {w : World} {src dst e : TypeId} {v : Value} {l : List UInt8}
    (hs : P.underlying src = some (.slice e)) (he : P.underlying e = some (.int .u8)) (hd : P.underlying dst = some .string) (h : RBytes S w [v] l) :
    (convert src dst v).run P w = .ok (.string (strOf l)) w := by
  obtain ⟨A, c, hv, hl, _, _, hc⟩ := h.at_
  injection hv with hv _
  subst hv
  rw [run_convert_bytes_string w src dst e A l.length c hs he hd]
  rcases Nat.eq_zero_or_pos l.length with h0 | h0
  · have : l = [] := List.eq_nil_of_length_eq_zero h0
    subst this
    cases A with
    | none => rfl
    | some a =>
      have := run_bytesToString (P := P) w a 0 c [] (by rfl)
      rw [List.length_nil, this]
      rfl
  · obtain ⟨b, off, rfl, _, hcell⟩ := hc h0
    have hload := run_loadCells_list (P := P) (w := w) ⟨b, off, none⟩ (l.map fun c => Value.int .u8 (c.toNat : Int)) (fun j v hj => by
      rw [List.getElem?_map] at hj
      cases hx : l[j]? with
      | none => rw [hx] at hj; simp at hj
      | some x =>
        rw [hx] at hj
        simp only [Option.map_some, Option.some.injEq] at hj
        have hlt : j < l.length := (List.getElem?_eq_some_iff.1 hx).1
        have := hcell j hlt
        have e1 : (Addr.mk b off none).add j = ⟨b, off + j, none⟩ := by unfold Addr.add; by_cases e2 : j = 0 <;> simp [e2]
        rw [e1, this, ← hj]
        unfold byteAt
        rw [List.getD_eq_getElem?_getD, hx, Option.getD_some])
    rw [List.length_map] at hload
    have := run_bytesToString (P := P) w ⟨b, off, none⟩ l.length c (l.map fun c => (c.toNat : Int)) (by rw [hload, List.map_map]; rfl)
    rw [this, foldl_push]
    rfl

/-- a string's bytes in new memory -/
theorem bytes_of_string {P : Program} {src dst e : TypeId} (hs : P.underlying src = some .string) (hd : P.underlying dst = some (.slice e)) (he : P.underlying e = some (.int .u8)) (w : World) (l : List UInt8) (hl : l.length ≤ 140737488355328) :
    ∃ v w', (convert src dst (.string (strOf l))).run P w = .ok v w' ∧ RBytes (fun b => w.heap.size ≤ b ∧ b < w'.heap.size) w' [v] l ∧ Below w.heap.size w w' ∧ (∃ a n c, v = .slice a n c) := by
  refine ⟨_, _, run_bytes_of_string w src dst e (strOf l) hs hd he, ?_, ((Below.refl _ w).drew).alloc (Nat.le_refl _) _, ⟨_, _, _, rfl⟩⟩
  rw [strOf_size]
  have hcap : l.length ≤ grownCap w l.length 0 e ∧ grownCap w l.length 0 e ≤ maxLen := by
    unfold grownCap maxLen
    have : w.tape w.drawn (.appendCap l.length 0 e) % (2 ^ 63 - l.length) < 2 ^ 63 - l.length := Nat.mod_lt _ (by omega)
    simp only [Question.cut]
    omega
  refine ⟨_, _, rfl, hcap.1, hcap.2, by omega, fun i hi => ⟨w.heap.size, 0, [.int .u8 (l[i].toNat : Int)], rfl, ⟨Nat.le_refl _, by rw [World.size_alloc]; exact Nat.lt_succ_self _⟩, rfl, fun j hj => ?_, rfl⟩⟩
  have hj0 : j = 0 := by omega
  subst hj0
  have e1 := heap_alloc_new w.drew (.cells (bytesRow (strOf l) (grownCap w l.length 0 e)) e ((bytesRow (strOf l) (grownCap w l.length 0 e)).size, (bytesRow (strOf l) (grownCap w l.length 0 e)).size + 1))
  have e2 : w.drew.heap.size = w.heap.size := rfl
  rw [e2] at e1
  unfold World.cell?
  simp only [e1]
  unfold bytesRow
  have h3 : i < (strOf l).data.size := by simpa [strOf] using hi
  simp [strOf, Array.getElem?_append, hi]

/-- what the table of types says of an element -/
def Elem (P : Program) (e : TypeId) (size bytes : Nat) : Prop := ∃ i z, P.info? e = some i ∧ i.zero = some z ∧ i.size = size ∧ i.bytes = bytes ∧ z.cells.size = size
theorem elem_of {P : Program} {e : TypeId} {z : Value} {size bytes : Nat} (h : (P.info? e).map (fun i => (i.zero, i.size, i.bytes)) = some (some z, size, bytes)) (hz : z.cells.size = size) : Elem P e size bytes := by
  obtain ⟨i, h0, h1, h2, h3⟩ := info_parts h
  exact ⟨i, z, h0, h1, h2, h3, hz⟩

theorem ownBlock_base {w : World} {base : Nat} {e : TypeId} {size n : Nat} {v : Value} {xs : List Value} (h : w.ownsRow base e size v n xs) : ∀ k, v.ownBlock = some k → base ≤ k := by
  intro k hk
  rcases h.2 with ⟨rfl, _⟩ | ⟨g, cap, cur, rfl, hg, _⟩
  · simp [Value.ownBlock] at hk
  · simp [Value.ownBlock] at hk
    omega

theorem cells_alloc_add (W : World) (cs : List Value) (e : TypeId) : ∀ j u, cs[j]? = some u → (W.alloc (.cells cs.toArray e)).cell? ((Addr.mk W.heap.size 0 none).add j) = some u := by
  intro j u hj
  have e1 : (W.alloc (.cells cs.toArray e)).heap[W.heap.size]? = some (.cells cs.toArray e) := heap_alloc_new W _
  have e2 : (Addr.mk W.heap.size 0 none).add j = ⟨W.heap.size, j, none⟩ := by unfold Addr.add; by_cases h : j = 0 <;> simp [h]
  rw [e2]
  unfold World.cell?
  simp only [e1]
  simpa using hj

/-- append of one element, laid in a block of its own, onto a slice of the call's own -/
theorem wpList_append_one {P : Program} {wr : World} {ops : Array Oper} {rest : List Oper} {o : Oper} {a : Act} {Q : Exit → Act → World → Prop} (hgd : o.guard = none) (s x : Operand) (t : TypeId)
    (ho : o.op = .call { callee := .builtin .append, args := #[s, x], argTypes := #[t, t] })
    {base : Nat} {e : TypeId} {size bytes : Nat} (ht : P.underlying t = some (.slice e)) (he : Elem P e size bytes) (hsz : 0 < size)
    {v : Value} {n : Nat} {xs : List Value} (hs : a.eval s = v) (hown : wr.ownsRow base e size v n xs)
    (news : List Value) (hl : news.length = size) (h1 : ∀ u ∈ news, u.oneCell' = true) (hx : a.eval x = .slice (some ⟨wr.heap.size, 0, none⟩) 1 1)
    (hm : n + 1 ≤ maxLen) (hbytes : (n + 1) * bytes ≤ 140737488355328) (hbase : base ≤ wr.heap.size)
    (h : ∀ v' w', w'.ownsRow base e size v' (n + 1) (xs ++ news) → Below base wr w' → v' ≠ .slice none 0 0 → wpList P ops Q rest (a.put o.dst v') w') :
    wpList P ops Q (o :: rest) a (wr.alloc (.cells news.toArray e)) := by
  obtain ⟨i, z, hi, hz, h2, h3, h4⟩ := he
  refine wpList_append_own (wr.alloc (.cells news.toArray e)) hgd s x t ho base e i z size bytes ht hi hz h2 h3 h4 hsz v n xs hs (hown.alloc _) ⟨wr.heap.size, 0, none⟩ 1 1 news hx (by omega)
    (cells_alloc_add wr news e) h1 hm hbytes (by rw [World.size_alloc]; omega) (fun v' w' h5 h6 h7 => h v' w' h5 ?_ ?_)
  · exact ((Below.refl base wr).alloc hbase _).grown h6 (by rw [World.size_alloc]; omega) (ownBlock_base hown)
  · intro h8
    have := h7.1 h8
    omega

/-- a slice of the call's own, read -/
theorem rslice_of_own {α : Type} {size bytes base : Nat} {R : Foot → World → List Value → α → Prop} {S : Foot} {w : World} {e : TypeId} {v : Value} {l : List α} {xs : List Value}
    (h : w.ownsRow base e size v l.length xs) (hS : ∀ b, base ≤ b → b < w.heap.size → S b) (hb : l.length * bytes ≤ 140737488355328)
    (hx : ∀ i (h : i < l.length), R S w ((xs.drop (i * size)).take size) l[i]) : RSlice size bytes R S w [v] l := by
  obtain ⟨hlen, h | ⟨g, cap, cur, rfl, hg, hh, hn, hc, hcur, hxs⟩⟩ := h
  · obtain ⟨rfl, h0⟩ := h
    have : l = [] := List.eq_nil_of_length_eq_zero h0
    subst this
    exact ⟨none, 0, rfl, Nat.le_refl _, by unfold maxLen; omega, by simp, fun i hi => by simp at hi⟩
  · have hlt : g < w.heap.size := by
      rcases Nat.lt_or_ge g w.heap.size with h | h
      · exact h
      · rw [Array.getElem?_eq_none h] at hh; cases hh
    refine ⟨some ⟨g, 0, none⟩, cap, rfl, hn, hc, hb, fun i hi => ⟨g, 0, (xs.drop (i * size)).take size, rfl, hS g hg hlt, ?_, fun j hj => ?_, hx i hi⟩⟩
    · rw [List.length_take, List.length_drop, hlen]
      have : (i + 1) * size ≤ l.length * size := Nat.mul_le_mul_right _ (by omega)
      rw [Nat.add_mul] at this
      omega
    · have h1 : (i + 1) * size ≤ l.length * size := Nat.mul_le_mul_right _ (by omega)
      rw [Nat.add_mul] at h1
      rw [List.getElem?_take_of_lt hj, List.getElem?_drop, ← hxs, List.getElem?_take_of_lt (by omega)]
      simp [World.cell?, hh]
theorem rbytes_of_own {base : Nat} {S : Foot} {w : World} {e : TypeId} {v : Value} {l : List UInt8}
    (h : w.ownsRow base e 1 v l.length (l.map fun c => .int .u8 (c.toNat : Int))) (hS : ∀ b, base ≤ b → b < w.heap.size → S b) (hb : l.length ≤ 140737488355328) : RBytes S w [v] l :=
  rslice_of_own h hS (by omega) (fun i hi => by
    unfold RByte
    rw [Nat.mul_one, List.drop_eq_getElem_cons (by rw [List.length_map]; exact hi), List.take_succ_cons, List.take_zero, List.getElem_map])
theorem rbytes_nil {S : Foot} {w : World} : RBytes S w [.slice none 0 0] [] :=
  ⟨none, 0, rfl, Nat.le_refl _, by unfold maxLen; omega, by simp, fun i hi => by simp at hi⟩

/-! ### What many functions call -/
set_option maxHeartbeats 400000 in
theorem sameBytes_calls {S S' : Foot} {a b : Value} {l m : List UInt8} {w : World} (ha : RBytes S w [a] l) (hb : RBytes S' w [b] m) :
    Calls Try.prog 19 #[a, b] w fun e w' => e = .returned (.bool (l == m)) ∧ w = w' := by
  have h1 : (convert 22 9 a).run Try.prog w = .ok (.string (strOf l)) w := run_string_of Try.underlying22 Try.underlying5 Try.underlying9 ha
  have h2 : (convert 22 9 b).run Try.prog w = .ok (.string (strOf m)) w := run_string_of Try.underlying22 Try.underlying5 Try.underlying9 hb
  clear ha hb
  go_enter Try.func19, Try.ntmps19
  go_wp2
  go_ret
  refine ⟨ret_bool ?_, rfl⟩
  simp [strOf]
set_option maxHeartbeats 400000 in
theorem upTo_calls (a b : Int) (w : World) :
    Calls Try.prog 53 #[.int .i64 a, .int .i64 b] w fun e w' => e = .returned (.bool (decide (0 ≤ a) && decide (a ≤ b))) ∧ w = w' := by
  go_enter Try.func53, Try.ntmps53
  go_wp2
  all_goals
    go_ret
    refine ⟨ret_bool ?_, rfl⟩
    first | (simp [*]; done) | (simp; omega)
end Go.Proofs.Ythgmpeilolephaa
