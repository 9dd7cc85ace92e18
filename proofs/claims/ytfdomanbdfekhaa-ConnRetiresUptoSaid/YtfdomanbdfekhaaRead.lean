/-
  ARGUMENTS AS DATA: what a caller hands over reads as abstract values. Plain lemmas, over any program.
-/
import Derived.Test.YtfdomanbdfekhaaEnc
import Derived.Test.YtfdomanbdfekhaaBase
set_option linter.unusedVariables false
set_option linter.unusedSimpArgs false
set_option linter.unusedVariables false
namespace Go.Proofs.Ytfdomanbdfekhaa
open Go.ChangeShapes Go.WideShapes Go.ChangeAt Go.RowKit Go.Deep

theorem i64_of_wf {x : Int} (h : (Lit.int .i64 x).wf = true) : I64 x := bounds_i64 h
theorem u64_of_wf {x : Int} (h : (Lit.int .u64 x).wf = true) : U64 x := by
  have := bounds_u64 h
  unfold U64; omega

/-- cells read as abstract values -/
def RdC (S : Nat → Prop) (w : World) (cs : List V) (es : List Value) : Prop := es.length = cs.length ∧ ∀ j, j < cs.length → PRel S w (cAt cs j) (es.getD j undef)
theorem rd0 {S : Nat → Prop} {w : World} : RdC S w [] [] := ⟨rfl, fun j hj => by simp at hj⟩
theorem rdc {S : Nat → Prop} {w : World} {c : V} {u : Value} {cs : List V} {es : List Value} (h : PRel S w c u) (k : RdC S w cs es) : RdC S w (c :: cs) (u :: es) := by
  refine ⟨by simp [k.1], fun j hj => ?_⟩
  cases j with
  | zero => simpa [cAt] using h
  | succ j => have := k.2 j (by simpa using hj); simpa [cAt] using this

theorem rdB_of_cells {P : Program} {W : World} {t : TypeId} {S : Nat → Prop} (hu : P.underlying t = some (.int .u8)) (es : List Value) (h : Cells P W t es) : ∃ x, RdC S W (encB x) es ∧ True := by
  obtain ⟨n, rfl, hw⟩ := h.int_ hu
  have := bounds_u8 hw
  refine ⟨UInt8.ofNat n.toNat, rdc ?_ rd0, trivial⟩
  have e : ((UInt8.ofNat n.toNat).toNat : Int) = n := by
    rw [UInt8.toNat_ofNat']; omega
  rw [e]; exact .lit _ rfl
theorem rdI_of_cells {P : Program} {W : World} {t : TypeId} {S : Nat → Prop} (hu : P.underlying t = some (.int .i64)) (es : List Value) (h : Cells P W t es) : ∃ x, RdC S W (encI x) es ∧ I64 x := by
  obtain ⟨n, rfl, hw⟩ := h.int_ hu
  exact ⟨n, rdc (.lit _ rfl) rd0, i64_of_wf hw⟩

theorem rd_of_slice {α : Type} {P : Program} {W : World} {t e : TypeId} {v : Value} {enc : α → List V} {wf : α → Prop} {size bytes : Nat}
    (hu : P.underlying t = some (.slice e)) (hs : P.cellsOf e = size) (hb : P.bytesOf e = bytes) (hpos : 0 < size)
    (hR : ∀ es, Cells P W e es → ∃ x, RdC (fun b => b < W.heap.size) W (enc x) es ∧ wf x) (h : Cells P W t [v]) :
    ∃ l : List α, PRel (fun b => b < W.heap.size) W (.ro (l.map enc)) v ∧ l.length * bytes ≤ 140737488351232 ∧ ∀ y, y ∈ l → wf y := by
  rcases h.slice_ hu with h0 | ⟨a, len, cap, hv, hl, hmax, hc, he⟩
  · injection h0 with h0 _
    subst h0
    exact ⟨[], .ro [] none 0 1 0 0 (fun _ _ => undef) (Nat.le_refl _) (by unfold maxLen; omega) (by omega) (fun h => by simp at h) (fun i hi => by simp at hi) (fun i j hi => by simp at hi) (fun i j hi => by simp at hi), by simp, fun y hy => by simp at hy⟩
  · injection hv with hv _
    subst hv
    rw [hs] at he
    rw [hb] at hc
    have hx : ∀ i, i < len → ∃ x es, es.length = size ∧ (∀ j, j < size → W.cell? ((a.add (i * size)).add j) = es[j]?) ∧ RdC (fun b => b < W.heap.size) W (enc x) es ∧ wf x := fun i hi => by
      obtain ⟨es, h1, h2, h3⟩ := he i (by omega)
      obtain ⟨x, hx, hw⟩ := hR es h3
      exact ⟨x, es, h1, h2, hx, hw⟩
    have hl' : ∃ l : List α, l.length = len ∧ (∀ i (h : i < l.length), ∃ es, es.length = size ∧ (∀ j, j < size → W.cell? ((a.add (i * size)).add j) = es[j]?) ∧ RdC (fun b => b < W.heap.size) W (enc l[i]) es) ∧ ∀ y, y ∈ l → wf y := by
      clear hl hc he h
      induction len with
      | zero => exact ⟨[], rfl, fun i hi => by simp at hi, fun y hy => by simp at hy⟩
      | succ n ih =>
        obtain ⟨l, hl, hl2, hl3⟩ := ih (fun i hi => hx i (by omega))
        obtain ⟨x, es, h1, h2, h3, h4⟩ := hx n (by omega)
        refine ⟨l ++ [x], by simp [hl], fun i hi => ?_, fun y hy => ?_⟩
        · simp at hi
          by_cases hin : i < l.length
          · rw [List.getElem_append_left hin]
            exact hl2 i hin
          · have : i = n := by omega
            subst this
            refine ⟨es, h1, h2, ?_⟩
            rw [List.getElem_append_right (by omega)]
            simpa [hl] using h3
        · simp at hy
          rcases hy with hy | rfl
          · exact hl3 y hy
          · exact h4
    obtain ⟨l, hll, hl2, hl3⟩ := hl'
    subst hll
    have hlb : l.length * bytes ≤ reachBytes := Nat.le_trans (Nat.mul_le_mul_right _ hl) hc
    refine ⟨l, ?_, by unfold reachBytes at hlb; omega, hl3⟩
    by_cases h0 : 0 < l.length
    · obtain ⟨es0, g1, g2, _⟩ := hl2 0 h0
      have hsp : a.spot = none := by
        have g := g2 0 hpos
        rw [List.getElem?_eq_getElem (by omega)] at g
        have := World.cell?_spot g
        simpa [Addr.add] using this
      obtain ⟨b, off, spot⟩ := a
      simp only at hsp
      subst hsp
      simp only [add_addr] at hl2 g2
      have hlt : b < W.heap.size := by
        have g := g2 0 hpos
        rw [List.getElem?_eq_getElem (by omega)] at g
        exact cell_lt g
      have hsz : ∀ i (h : i < l.length), (enc l[i]).length = size := fun i hi => by
        obtain ⟨es, q1, q2, q3⟩ := hl2 i hi
        rw [← q3.1, q1]
      have hmap : ∀ i (h : i < l.length), eAt (l.map enc) i = enc l[i] := fun i hi => by
        unfold eAt
        rw [List.getD_eq_getElem?_getD, List.getElem?_map, List.getElem?_eq_getElem hi]; rfl
      have : PRel (fun b => b < W.heap.size) W (.ro (l.map enc)) (.slice (some ⟨b, off, none⟩) (l.map enc).length cap) := by
        refine .ro _ _ cap size b off (fun i j => (W.cell? ⟨b, off + i * size + j, none⟩).getD undef) (by simpa using hl) hmax hpos (fun _ => ⟨rfl, hlt⟩) (fun i hi => ?_) (fun i j hi hj => ?_) (fun i j hi hj => ?_)
        · rw [List.length_map] at hi; rw [hmap i hi]; exact hsz i hi
        · rw [List.length_map] at hi
          obtain ⟨es, q1, q2, q3⟩ := hl2 i hi
          rw [q2 j hj, List.getElem?_eq_getElem (by omega)]; rfl
        · rw [List.length_map] at hi
          obtain ⟨es, q1, q2, q3⟩ := hl2 i hi
          rw [hmap i hi, q2 j hj]
          have := q3.2 j (by rw [hsz i hi]; exact hj)
          rwa [List.getD_eq_getElem?_getD] at this
      rwa [List.length_map] at this
    · have hn : l = [] := List.eq_nil_of_length_eq_zero (by omega)
      subst hn
      exact .ro [] (some a) cap 1 0 0 (fun _ _ => undef) (by simp) hmax (by omega) (fun h => by simp at h) (fun i hi => by simp at hi) (fun i j hi => by simp at hi) (fun i j hi => by simp at hi)

/-! ### A law, out of what its function answers -/
def ArgV (W : World) (v : Value) (x : V) : Prop := VRel (fun _ => none) (fun b => b < W.heap.size) W x v
theorem argv_lit {W : World} {u : Value} (h : u.oneCell' = true) : ArgV W u (.lit u) := .pure (.lit _ h)
theorem argv_ro {W : World} {u : Value} {l : List (List V)} (h : PRel (fun b => b < W.heap.size) W (.ro l) u) : ArgV W u (.ro l) := .pure h
theorem argv_agg {W : World} {cs : List V} {es : List Value} (h : RdC (fun b => b < W.heap.size) W cs es) : ArgV W (.agg es.toArray) (.agg cs) :=
  .agg (by simp [h.1]) (fun j hj => by
    have := h.2 j hj
    have e : es.toArray.getD j undef = es.getD j undef := by rw [Array.getD_eq_getD_getElem?, List.getD_eq_getElem?_getD]; simp
    rw [e]; exact .pure this)
inductive ArgVs (W : World) : List V → List Value → Prop
  | nil : ArgVs W [] []
  | cons {x : V} {v : Value} {xs : List V} {vs : List Value} (h : ArgV W v x) (hs : ArgVs W xs vs) : ArgVs W (x :: xs) (v :: vs)
theorem ArgVs.spec {W : World} {xs : List V} {vs : List Value} (h : ArgVs W xs vs) : vs.length = xs.length ∧ ∀ j, j < xs.length → ArgV W (vs.getD j undef) (cAt xs j) := by
  induction h with
  | nil => exact ⟨rfl, fun j hj => by simp at hj⟩
  | cons h hs ih =>
    refine ⟨by simp [ih.1], fun j hj => ?_⟩
    cases j with
    | zero => simpa [cAt] using h
    | succ j => have := ih.2 j (by simpa using hj); simpa [cAt] using this
theorem law_of_fn {P : Program} {f : FuncId} {xs : List V} {vs : List Value} {W : World} (hf : Fn P f xs (.lit (.bool true))) (ha : ArgVs W xs vs) : Calls P f vs.toArray W fun e W' => e = .returned (.bool true) ∧ Below W.heap.size W W' := by
  obtain ⟨h1, h2⟩ := ha.spec
  refine (hf.2 W (fun _ => True) vs.toArray (by simpa using h1) (fun _ _ => trivial) (fun j hj => ?_)).mono ?_
  · have e : vs.toArray.getD j undef = vs.getD j undef := by rw [Array.getD_eq_getD_getElem?, List.getD_eq_getElem?_getD]; simp
    rw [e]
    exact (h2 j hj).mono (Same.refl _ _) (fun _ _ _ => trivial) (fun _ _ h => h)
  · rintro e w' ⟨v, rfl, hb, hv⟩
    rw [lit_inv hv]
    exact ⟨rfl, hb⟩
end Go.Proofs.Ytfdomanbdfekhaa
