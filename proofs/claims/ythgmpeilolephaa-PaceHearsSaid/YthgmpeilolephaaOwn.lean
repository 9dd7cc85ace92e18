/-
  A struct of the call's own, written field by field: its cells as one list.
-/
import Derived.Test.YthgmpeilolephaaRep
set_option linter.unusedSimpArgs false
set_option linter.unusedVariables false
namespace Go.Proofs.Ythgmpeilolephaa
open Go.RowKit

theorem heap_alloc_lt {w : World} {k : Nat} (o : Obj) (h : k < w.heap.size) : (w.alloc o).heap[k]? = w.heap[k]? := by
  rw [show (w.alloc o).heap = w.heap.push o from rfl, Array.getElem?_push, if_neg (by omega)]

/-- the world with a block's cells put anew -/
def World.putRow (w : World) (g : Nat) (t : TypeId) (X : Array Value) : World := { w with heap := w.heap.setIfInBounds g (.cells X t (0, 0)) }

theorem putRow_self {w : World} {g : Nat} {t : TypeId} {X : Array Value} (h : w.heap[g]? = some (.cells X t (0, 0))) : World.putRow w g t X = w := by
  unfold World.putRow
  have e : w.heap.setIfInBounds g (.cells X t (0, 0)) = w.heap := by
    apply Array.ext_getElem?
    intro i
    rw [Array.getElem?_setIfInBounds]
    by_cases hi : g = i
    · subst hi
      rw [if_pos rfl]
      split
      · exact h.symm
      · rename_i hn
        rw [Array.getElem?_eq_none (by omega)] at h
        exact absurd h (by simp)
    · rw [if_neg hi]
  rw [e]
theorem putRow_set (w : World) (g : Nat) (t : TypeId) (X : Array Value) (i : Nat) (v : Value) : (World.putRow w g t X).setCell ⟨g, i, none⟩ v = World.putRow w g t (X.setIfInBounds i v) := by
  unfold World.putRow World.setCell
  have e : (w.heap.setIfInBounds g (.cells X t (0, 0))).modify g (fun
      | .cells c elem frozen => .cells (if (none : Option Nat).isSome then c else c.setIfInBounds i v) elem frozen
      | o => o) = w.heap.setIfInBounds g (.cells (X.setIfInBounds i v) t (0, 0)) := by
    apply Array.ext_getElem?
    intro k
    rw [Array.getElem?_modify, Array.getElem?_setIfInBounds, Array.getElem?_setIfInBounds]
    by_cases hk : g = k
    · subst hk
      rw [if_pos rfl, if_pos rfl, if_pos rfl]
      by_cases hlt : g < w.heap.size
      · rw [if_pos hlt, if_pos hlt]; rfl
      · rw [if_neg hlt, if_neg hlt]; rfl
    · rw [if_neg hk, if_neg hk, if_neg hk]
  simp only at e ⊢
  rw [← e]
  rfl
theorem putRow_get (w : World) (g : Nat) (t : TypeId) (X : Array Value) (h : g < w.heap.size) (i : Nat) : (World.putRow w g t X).cell? ⟨g, i, none⟩ = X[i]? := by
  unfold World.putRow World.cell?
  simp only [Array.getElem?_setIfInBounds, if_pos, h]
  rfl
theorem putRow_frozen (w : World) (g : Nat) (t : TypeId) (X : Array Value) (h : g < w.heap.size) (i : Nat) : (World.putRow w g t X).frozen? ⟨g, i, none⟩ = false := by
  unfold World.putRow World.frozen?
  simp only [Array.getElem?_setIfInBounds, if_pos, h]
  simp
theorem putRow_below {w W : World} {base g : Nat} (h : Below base w W) (hg : base ≤ g) (t : TypeId) (X : Array Value) : Below base w (World.putRow W g t X) :=
  h.trans ⟨rfl, rfl, rfl, by simp [World.putRow], fun k hk => by
    unfold World.putRow
    simp only [Array.getElem?_setIfInBounds]
    rw [if_neg (by omega)]⟩

theorem putRow_other (w : World) (g : Nat) (t : TypeId) (X : Array Value) (k : Nat) (hk : k ≠ g) (o : Nat) : (World.putRow w g t X).cell? ⟨k, o, none⟩ = w.cell? ⟨k, o, none⟩ ∧ (World.putRow w g t X).frozen? ⟨k, o, none⟩ = w.frozen? ⟨k, o, none⟩ := by
  have e : (World.putRow w g t X).heap[k]? = w.heap[k]? := by
    unfold World.putRow
    simp only [Array.getElem?_setIfInBounds]
    rw [if_neg (by omega)]
  constructor
  · unfold World.cell?; simp only [e]
  · unfold World.frozen?; simp only [e]

/-- a block of four cells of the call's own, as a function of what its cells hold -/
theorem own4 {w W : World} {base g : Nat} {t : TypeId} {a b c d : Value} (h : W.heap[g]? = some (.cells #[a, b, c, d] t (0, 0))) (hb : Below base w W) (hg : base ≤ g) :
    ∃ PW : Value → Value → Value → Value → World, W = PW a b c d ∧
      (∀ x y z u v, (PW x y z u).setCell ⟨g, 0, none⟩ v = PW v y z u) ∧ (∀ x y z u v, (PW x y z u).setCell ⟨g, 1, none⟩ v = PW x v z u) ∧
      (∀ x y z u v, (PW x y z u).setCell ⟨g, 2, none⟩ v = PW x y v u) ∧ (∀ x y z u v, (PW x y z u).setCell ⟨g, 3, none⟩ v = PW x y z v) ∧
      (∀ x y z u, (PW x y z u).cell? ⟨g, 0, none⟩ = some x) ∧ (∀ x y z u, (PW x y z u).cell? ⟨g, 1, none⟩ = some y) ∧
      (∀ x y z u, (PW x y z u).cell? ⟨g, 2, none⟩ = some z) ∧ (∀ x y z u, (PW x y z u).cell? ⟨g, 3, none⟩ = some u) ∧
      (∀ x y z u i, (PW x y z u).frozen? ⟨g, i, none⟩ = false) ∧ Hid (∀ x y z u, Below base w (PW x y z u)) ∧
      Hid (∀ x y z u k o, k ≠ g → (PW x y z u).cell? ⟨k, o, none⟩ = W.cell? ⟨k, o, none⟩ ∧ (PW x y z u).frozen? ⟨k, o, none⟩ = W.frozen? ⟨k, o, none⟩) := by
  have hlt : g < W.heap.size := by
    by_cases hx : g < W.heap.size
    · exact hx
    · rw [Array.getElem?_eq_none (by omega)] at h; exact absurd h (by simp)
  exact ⟨fun x y z u => World.putRow W g t #[x, y, z, u], (putRow_self h).symm,
    fun x y z u v => by rw [putRow_set]; rfl, fun x y z u v => by rw [putRow_set]; rfl, fun x y z u v => by rw [putRow_set]; rfl, fun x y z u v => by rw [putRow_set]; rfl,
    fun x y z u => by rw [putRow_get _ _ _ _ hlt]; rfl, fun x y z u => by rw [putRow_get _ _ _ _ hlt]; rfl, fun x y z u => by rw [putRow_get _ _ _ _ hlt]; rfl, fun x y z u => by rw [putRow_get _ _ _ _ hlt]; rfl,
    fun x y z u i => putRow_frozen _ _ _ _ hlt i, fun x y z u => putRow_below hb hg _ _, fun x y z u k o hk => putRow_other _ _ _ _ _ hk _⟩
end Go.Proofs.Ythgmpeilolephaa
