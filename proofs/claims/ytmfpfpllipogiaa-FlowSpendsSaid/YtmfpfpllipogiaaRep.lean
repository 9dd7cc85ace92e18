/-
  HOW DATA LIE IN MEMORY: a slice that reads as a list, whatever its elements; what is kept where the blocks that it leads to are kept. Plain lemmas, over any program.
-/
import Derived.Test.YtmfpfpllipogiaaBase
import Derived.Handy
import Derived.Lib.Hide
import Derived.IntWalk
import Derived.BigQuiet
import Derived.Deep.QuietTactic
set_option linter.unusedSimpArgs false
set_option linter.unusedVariables false
namespace Go.Proofs.Ytmfpfpllipogiaa
open Go.ChangeShapes Go.WideShapes Go.ChangeAt Go.RowKit Go.Deep

/-- within an int64 -/
def I64 (x : Int) : Prop := -9223372036854775808 ≤ x ∧ x ≤ 9223372036854775807
/-- which blocks data may lead to -/
abbrev Foot := Nat → Prop

theorem i64_of_wf {x : Int} (h : (Lit.int .i64 x).wf = true) : I64 x := bounds_i64 h

/-- a slice reads as a list: 'size' cells an element, each read by R -/
def RSlice {α : Type} (size bytes : Nat) (R : Foot → World → List Value → α → Prop) (S : Foot) (w : World) (cs : List Value) (l : List α) : Prop :=
  ∃ A c, cs = [.slice A l.length c] ∧ l.length ≤ c ∧ c * bytes ≤ reachBytes ∧
    ∀ i (h : i < l.length), ∃ b off es, A = some ⟨b, off, none⟩ ∧ S b ∧ es.length = size ∧ (∀ j, j < size → w.cell? ⟨b, off + i * size + j, none⟩ = es[j]?) ∧ R S w es l[i]

/-- what is kept where all blocks of the foot are kept -/
def Keeps {α : Type} (R : Foot → World → List Value → α → Prop) : Prop :=
  ∀ (S S' : Foot) (w w' : World) (cs : List Value) (x : α), (∀ b, S b → S' b) → (∀ b, S b → w'.heap[b]? = w.heap[b]?) → R S w cs x → R S' w' cs x

theorem cell_of_heap {w w' : World} {b o : Nat} (h : w'.heap[b]? = w.heap[b]?) : w'.cell? ⟨b, o, none⟩ = w.cell? ⟨b, o, none⟩ := by
  simp [World.cell?, h]

theorem RSlice.keeps {α : Type} {size bytes : Nat} {R : Foot → World → List Value → α → Prop} (hR : Keeps R) : Keeps (RSlice size bytes R) := by
  intro S S' w w' cs l hS hw ⟨A, c, hcs, hl, hb, he⟩
  refine ⟨A, c, hcs, hl, hb, fun i hi => ?_⟩
  obtain ⟨b, off, es, h1, h2, h3, h4, h5⟩ := he i hi
  exact ⟨b, off, es, h1, hS b h2, h3, fun j hj => (cell_of_heap (hw b h2)).trans (h4 j hj), hR S S' w w' es _ hS hw h5⟩

/-- one address for all elements -/
theorem RSlice.open_ {α : Type} {size bytes : Nat} {R : Foot → World → List Value → α → Prop} {S : Foot} {w : World} {cs : List Value} {l : List α}
    (h : RSlice size bytes R S w cs l) : ∃ A c, cs = [.slice A l.length c] ∧ l.length ≤ c ∧ c * bytes ≤ reachBytes ∧
      (0 < l.length → ∃ b off, A = some ⟨b, off, none⟩ ∧ S b ∧ ∀ i (h : i < l.length), ∃ es, es.length = size ∧ (∀ j, j < size → w.cell? ⟨b, off + i * size + j, none⟩ = es[j]?) ∧ R S w es l[i]) := by
  obtain ⟨A, c, hcs, hl, hb, he⟩ := h
  refine ⟨A, c, hcs, hl, hb, fun h0 => ?_⟩
  obtain ⟨b, off, es, h1, h2, _⟩ := he 0 h0
  refine ⟨b, off, h1, h2, fun i hi => ?_⟩
  obtain ⟨b', off', es', h1', h2', h3', h4', h5'⟩ := he i hi
  rw [h1] at h1'
  injection h1' with h1'
  injection h1' with e1 e2
  subst e1; subst e2
  exact ⟨es', h3', h4', h5'⟩

/-- a byte -/
def RByte (_ : Foot) (_ : World) (cs : List Value) (x : UInt8) : Prop := cs = [.int .u8 (x.toNat : Int)]
theorem RByte.keeps : Keeps RByte := fun _ _ _ _ _ _ _ _ h => h
abbrev RBytes := RSlice 1 1 RByte
theorem RBytes.keeps : Keeps RBytes := RSlice.keeps RByte.keeps

/-- an int -/
def RInt (_ : Foot) (_ : World) (cs : List Value) (x : Int) : Prop := cs = [.int .i64 x] ∧ I64 x
theorem RInt.keeps : Keeps RInt := fun _ _ _ _ _ _ _ _ h => h

/-- what a callee's world still holds of the caller's -/
theorem bcell {W w1 : World} (hb : Below W.heap.size W w1) : (∀ b o, b < W.heap.size → w1.cell? ⟨b, o, none⟩ = W.cell? ⟨b, o, none⟩) ∧
    (∀ b o, b < W.heap.size → w1.frozen? ⟨b, o, none⟩ = W.frozen? ⟨b, o, none⟩) ∧ W.heap.size ≤ w1.heap.size :=
  ⟨fun b o h => hb.cell (p := ⟨b, o, none⟩) h, fun b o h => hb.frozen (p := ⟨b, o, none⟩) h, hb.size⟩
theorem binto {B : Nat} {w0 W w1 : World} (h : Below B w0 W) (hB : B ≤ W.heap.size) (hb : Below W.heap.size W w1) : Below B w0 w1 := h.trans (hb.mono hB)
theorem ret_int {k : IntKind} {a b : Int} (h : a = b) : Ending.returned (.int k a) = .returned (.int k b) := by rw [h]
theorem ret_bool {a b : Bool} (h : a = b) : Ending.returned (.bool a) = .returned (.bool b) := by rw [h]

/-- an argument's slice as a list -/
theorem rslice_of_cells {α : Type} {P : Program} {W : World} {t e : TypeId} {cs : List Value} {R : Foot → World → List Value → α → Prop} {size bytes : Nat}
    (hu : P.underlying t = some (.slice e)) (hs : P.cellsOf e = size) (hb : P.bytesOf e = bytes) (hpos : 0 < size)
    (hR : ∀ es, Cells P W e es → ∃ x, R (fun b => b < W.heap.size) W es x) (h : Cells P W t cs) : ∃ l : List α, RSlice size bytes R (fun b => b < W.heap.size) W cs l := by
  rcases h.slice_ hu with rfl | ⟨a, len, cap, rfl, hl, hc, he⟩
  · exact ⟨[], none, 0, rfl, Nat.le_refl _, by omega, fun i hi => by simp at hi⟩
  · rw [hs] at he
    rw [hb] at hc
    have hx : ∀ i, i < len → ∃ x es, es.length = size ∧ (∀ j, j < size → W.cell? ((a.add (i * size)).add j) = es[j]?) ∧ R (fun b => b < W.heap.size) W es x := fun i hi => by
      obtain ⟨es, h1, h2, h3⟩ := he i (by omega)
      obtain ⟨x, hx⟩ := hR es h3
      exact ⟨x, es, h1, h2, hx⟩
    have hl' : ∃ l : List α, l.length = len ∧ ∀ i (h : i < l.length), ∃ es, es.length = size ∧ (∀ j, j < size → W.cell? ((a.add (i * size)).add j) = es[j]?) ∧ R (fun b => b < W.heap.size) W es l[i] := by
      clear hl hc he h
      induction len with
      | zero => exact ⟨[], rfl, fun i hi => by simp at hi⟩
      | succ n ih =>
        obtain ⟨l, hl, hl2⟩ := ih (fun i hi => hx i (by omega))
        obtain ⟨x, es, h1, h2, h3⟩ := hx n (by omega)
        refine ⟨l ++ [x], by simp [hl], fun i hi => ?_⟩
        simp at hi
        by_cases hin : i < l.length
        · rw [List.getElem_append_left hin]
          exact hl2 i hin
        · have : i = n := by omega
          subst this
          refine ⟨es, h1, h2, ?_⟩
          rw [List.getElem_append_right (by omega)]
          simpa [hl] using h3
    obtain ⟨l, hll, hl2⟩ := hl'
    subst hll
    refine ⟨l, some a, cap, rfl, hl, hc, fun i hi => ?_⟩
    obtain ⟨es, h1, h2, h3⟩ := hl2 i hi
    have h20 := h2 0 hpos
    rw [List.getElem?_eq_getElem (by omega)] at h20
    have hsp : a.spot = none := by
      obtain ⟨es0, g1, g2, _⟩ := hl2 0 (by omega)
      have g := g2 0 hpos
      rw [List.getElem?_eq_getElem (by omega)] at g
      have := World.cell?_spot g
      simpa [Addr.add] using this
    obtain ⟨b, off, spot⟩ := a
    simp only at hsp
    subst hsp
    have hadd : ∀ j, ((Addr.mk b off none).add (i * size)).add j = ⟨b, off + i * size + j, none⟩ := fun j => by
      unfold Addr.add
      by_cases e1 : i * size = 0 <;> by_cases e2 : j = 0 <;> simp [e1, e2]
    refine ⟨b, off, es, rfl, ?_, h1, fun j hj => by rw [← hadd]; exact h2 j hj, h3⟩
    rw [hadd] at h20
    unfold World.cell? at h20
    by_cases hlt : b < W.heap.size
    · exact hlt
    · simp [Array.getElem?_eq_none (by omega : W.heap.size ≤ b)] at h20

theorem rbyte_of_cells {P : Program} {W : World} {t : TypeId} {S : Foot} (hu : P.underlying t = some (.int .u8)) (es : List Value) (h : Cells P W t es) : ∃ x, RByte S W es x := by
  obtain ⟨n, rfl, hw⟩ := h.int_ hu
  have := bounds_u8 hw
  refine ⟨UInt8.ofNat n.toNat, ?_⟩
  unfold RByte
  have e : (UInt8.ofNat n.toNat).toNat = n.toNat := by
    rw [UInt8.toNat_ofNat']
    omega
  rw [e]
  have : ((n.toNat : Nat) : Int) = n := by omega
  rw [this]

theorem rint_of_cells {P : Program} {W : World} {t : TypeId} {S : Foot} (hu : P.underlying t = some (.int .i64)) (es : List Value) (h : Cells P W t es) : ∃ x, RInt S W es x := by
  obtain ⟨n, rfl, hw⟩ := h.int_ hu
  exact ⟨n, rfl, i64_of_wf hw⟩

/-! ### What many functions call -/
set_option maxHeartbeats 400000 in
theorem upTo_calls (a b : Int) (w : World) :
    Calls Try.prog 56 #[.int .i64 a, .int .i64 b] w fun e w' => e = .returned (.bool (decide (0 ≤ a) && decide (a ≤ b))) ∧ w = w' := by
  go_enter Try.func56, Try.ntmps56
  go_wp2
  all_goals
    go_ret
    refine ⟨ret_bool ?_, rfl⟩
    first | (simp [*]; done) | (simp; omega)
end Go.Proofs.Ytmfpfpllipogiaa
