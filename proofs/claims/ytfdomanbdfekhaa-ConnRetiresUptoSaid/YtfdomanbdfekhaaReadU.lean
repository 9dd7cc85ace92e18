/-
  WITHIN THE BOUND OF THE SECOND FORM: written by a program (mku.py).
-/
import Derived.Test.YtfdomanbdfekhaaRead
import Derived.Test.YtfdomanbdfekhaaBaseU
import Derived.Test.YtfdomanbdfekhaaEncU

set_option linter.unusedVariables false
set_option linter.unusedSimpArgs false
set_option linter.unusedVariables false
namespace Go.Proofs.Ytfdomanbdfekhaa.U
open Go.ChangeShapes Go.WideShapes Go.ChangeAt Go.RowKit Go.Deep

theorem rdB_of_cells {P : Program} {W : World} {t : TypeId} {S : Nat → Prop} (hu : P.underlying t = some (.int .u8)) (es : List Value) (h : Cells P W t es) : ∃ x, RdC S W (encB x) es ∧ True := by
  obtain ⟨n, rfl, hw⟩ := h.int_ hu
  have := bounds_u8 hw
  refine ⟨UInt8.ofNat n.toNat, rdc ?_ rd0, trivial⟩
  have e : ((UInt8.ofNat n.toNat).toNat : Int) = n := by
    rw [UInt8.toNat_ofNat']; omega
  rw [e]; exact .lit _ rfl
theorem rdI_of_cells {P : Program} {W : World} {t : TypeId} {S : Nat → Prop} (hu : P.underlying t = some (.int .i64)) (es : List Value) (h : Cells P W t es) : ∃ x, RdC S W (encI x) es ∧ I64 x := by
  obtain ⟨n, rfl, hw⟩ := h.int_ hu
  exact ⟨n, rdc (.lit _ rfl) rd0, i64_of_wf hw⟩

theorem rd_of_slice {α : Type} {P : Program} {W : World} {t e : TypeId} {v : Value} {enc : α → List V} {wf : α → Prop} {size bytes : Nat}
    (hu : P.underlying t = some (.slice e)) (hs : P.cellsOf e = size) (hb : P.bytesOf e = bytes) (hpos : 0 < size)
    (hR : ∀ es, Cells P W e es → ∃ x, RdC (fun b => b < W.heap.size) W (enc x) es ∧ wf x) (h : Cells P W t [v]) :
    ∃ l : List α, PRel (fun b => b < W.heap.size) W (.ro (l.map enc)) v ∧ l.length * bytes ≤ bytes * 1048576 ∧ ∀ y, y ∈ l → wf y := by
  rcases h.slice_ hu with h0 | ⟨a, len, cap, hv, hl, hmax, hc, he⟩
  · injection h0 with h0 _
    subst h0
    exact ⟨[], .ro [] none 0 1 0 0 (fun _ _ => undef) (Nat.le_refl _) (by unfold maxLen; omega) (by omega) (fun h => by simp at h) (fun i hi => by simp at hi) (fun i j hi => by simp at hi) (fun i j hi => by simp at hi), by simp, fun y hy => by simp at hy⟩
  · injection hv with hv _
    subst hv
    rw [hs] at he
    have hx : ∀ i, i < len → ∃ x es, es.length = size ∧ (∀ j, j < size → W.cell? ((a.add (i * size)).add j) = es[j]?) ∧ RdC (fun b => b < W.heap.size) W (enc x) es ∧ wf x := fun i hi => by
      obtain ⟨es, h1, h2, h3⟩ := he i (by omega)
      obtain ⟨x, hx, hw⟩ := hR es h3
      exact ⟨x, es, h1, h2, hx, hw⟩
    have hl' : ∃ l : List α, l.length = len ∧ (∀ i (h : i < l.length), ∃ es, es.length = size ∧ (∀ j, j < size → W.cell? ((a.add (i * size)).add j) = es[j]?) ∧ RdC (fun b => b < W.heap.size) W (enc l[i]) es) ∧ ∀ y, y ∈ l → wf y := by
      clear hl hc he h
      induction len with
      | zero => exact ⟨[], rfl, fun i hi => by simp at hi, fun y hy => by simp at hy⟩
      | succ n ih =>
        obtain ⟨l, hl, hl2, hl3⟩ := ih (fun i hi => hx i (by omega))
        obtain ⟨x, es, h1, h2, h3, h4⟩ := hx n (by omega)
        refine ⟨l ++ [x], by simp [hl], fun i hi => ?_, fun y hy => ?_⟩
        · simp at hi
          by_cases hin : i < l.length
          · rw [List.getElem_append_left hin]
            exact hl2 i hin
          · have : i = n := by omega
            subst this
            refine ⟨es, h1, h2, ?_⟩
            rw [List.getElem_append_right (by omega)]
            simpa [hl] using h3
        · simp at hy
          rcases hy with hy | rfl
          · exact hl3 y hy
          · exact h4
    obtain ⟨l, hll, hl2, hl3⟩ := hl'
    subst hll
    have hlb : l.length * bytes ≤ bytes * 1048576 := by rw [Nat.mul_comm bytes]; exact Nat.mul_le_mul_right _ (Nat.le_trans hl hc)
    refine ⟨l, ?_, hlb, hl3⟩
    by_cases h0 : 0 < l.length
    · obtain ⟨es0, g1, g2, _⟩ := hl2 0 h0
      have hsp : a.spot = none := by
        have g := g2 0 hpos
        rw [List.getElem?_eq_getElem (by omega)] at g
        have := World.cell?_spot g
        simpa [Addr.add] using this
      obtain ⟨b, off, spot⟩ := a
      simp only at hsp
      subst hsp
      simp only [add_addr] at hl2 g2
      have hlt : b < W.heap.size := by
        have g := g2 0 hpos
        rw [List.getElem?_eq_getElem (by omega)] at g
        exact cell_lt g
      have hsz : ∀ i (h : i < l.length), (enc l[i]).length = size := fun i hi => by
        obtain ⟨es, q1, q2, q3⟩ := hl2 i hi
        rw [← q3.1, q1]
      have hmap : ∀ i (h : i < l.length), eAt (l.map enc) i = enc l[i] := fun i hi => by
        unfold eAt
        rw [List.getD_eq_getElem?_getD, List.getElem?_map, List.getElem?_eq_getElem hi]; rfl
      have : PRel (fun b => b < W.heap.size) W (.ro (l.map enc)) (.slice (some ⟨b, off, none⟩) (l.map enc).length cap) := by
        refine .ro _ _ cap size b off (fun i j => (W.cell? ⟨b, off + i * size + j, none⟩).getD undef) (by simpa using hl) hmax hpos (fun _ => ⟨rfl, hlt⟩) (fun i hi => ?_) (fun i j hi hj => ?_) (fun i j hi hj => ?_)
        · rw [List.length_map] at hi; rw [hmap i hi]; exact hsz i hi
        · rw [List.length_map] at hi
          obtain ⟨es, q1, q2, q3⟩ := hl2 i hi
          rw [q2 j hj, List.getElem?_eq_getElem (by omega)]; rfl
        · rw [List.length_map] at hi
          obtain ⟨es, q1, q2, q3⟩ := hl2 i hi
          rw [hmap i hi, q2 j hj]
          have := q3.2 j (by rw [hsz i hi]; exact hj)
          rwa [List.getD_eq_getElem?_getD] at this
      rwa [List.length_map] at this
    · have hn : l = [] := List.eq_nil_of_length_eq_zero (by omega)
      subst hn
      exact .ro [] (some a) cap 1 0 0 (fun _ _ => undef) (by simp) hmax (by omega) (fun h => by simp at h) (fun i hi => by simp at hi) (fun i j hi => by simp at hi) (fun i j hi => by simp at hi)

end Go.Proofs.Ytfdomanbdfekhaa.U
