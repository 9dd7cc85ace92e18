/-
  A VALUE CALCULUS OVER THE MODEL, part 7: structs and slices that are built, appends, conversions, parts of slices. Plain lemmas, over any program.
-/
import Derived.Test.YtnbbnedpjfanoaaAbs6
import Derived.Laws.Tables
import Derived.Great.BuildSlice
import Derived.Laws.OwnMore
set_option linter.unusedVariables false
set_option linter.unusedSimpArgs false
set_option linter.unusedVariables false
namespace Go.Proofs.Ytnbbnedpjfanoaa
open Go.RowKit
section
variable {P : Program} {G : List Nat} {o : Oper} {st : St} {n0 : Nat}

/-! ### Structs -/
def fillV (place : Nat → Option (Nat × Nat)) (cells : List V) : List (Nat × List V) → Option (List V)
  | [] => some cells
  | (i, v) :: rest => match place i with
    | none => none
    | some (off, size) => bif Nat.beq v.length size && Nat.ble (off + v.length) cells.length then fillV place (setAt off v cells) rest else none
def placeT (P : Program) (T : TypeId) : Option (Nat → Option (Nat × Nat)) :=
  match P.info? T, P.underlying T with
  | some it, some (.array _ e) =>
    match it.zero, P.info? e with
    | some z, some ie => some (fun i => some (i * ie.size, ie.size))
    | _, _ => none
  | some it, some (.struct fields) =>
    match it.zero, fields.toList.mapM (fun f => (P.info? f.type).map fun i => (f.offset, i.size)) with
    | some z, some places => some (places[·]?)
    | _, _ => none
  | _, _ => none
def partsE (env : List (Nat × V)) : List (Nat × Operand) → Option (List (Nat × List V))
  | [] => some []
  | (i, x) :: r => match opE env x with
    | some v => match flat v, partsE env r with
      | some cs, some ps => some ((i, cs) :: ps)
      | _, _ => none
    | none => none

def CRel (ρ : Nat → Option Value) (S : Nat → Prop) (w : World) (cs : List V) (us : Array Value) : Prop :=
  us.size = cs.length ∧ ∀ j, j < cs.length → VRel ρ S w (cAt cs j) (us.getD j undef) ∧ (us.getD j undef).oneCell' = true

theorem foldl_put (off : Nat) : ∀ (l : List Value) (k : Nat) (cs : Array Value), off + k + l.length ≤ cs.size →
    ((l.zipIdx k).foldl (fun cs (x : Value × Nat) => cs.setIfInBounds (off + x.2) x.1) cs).size = cs.size ∧
    ∀ i, i < cs.size → ((l.zipIdx k).foldl (fun cs (x : Value × Nat) => cs.setIfInBounds (off + x.2) x.1) cs).getD i undef = if off + k ≤ i ∧ i < off + k + l.length then l.getD (i - off - k) undef else cs.getD i undef
  | [], k, cs, _ => ⟨rfl, fun i hi => by simp only [List.zipIdx_nil, List.foldl_nil, List.length_nil, Nat.add_zero]; rw [if_neg (by omega)]⟩
  | v :: l, k, cs, h => by
    simp only [List.length_cons] at h
    obtain ⟨h1, h2⟩ := foldl_put off l (k + 1) (cs.setIfInBounds (off + k) v) (by simp; omega)
    simp only [List.zipIdx_cons, List.foldl_cons]
    refine ⟨by rw [h1]; simp, fun i hi => ?_⟩
    rw [h2 i (by simpa using hi)]
    simp only [List.length_cons]
    by_cases e : i = off + k
    · subst e
      rw [if_neg (by omega), if_pos (by omega)]
      have : off + k - off - k = 0 := by omega
      rw [this, Array.getD_eq_getD_getElem?, Array.getElem?_setIfInBounds_self_of_lt hi]
      simp
    · have hset : (cs.setIfInBounds (off + k) v).getD i undef = cs.getD i undef := by
        rw [Array.getD_eq_getD_getElem?, Array.getD_eq_getD_getElem?, Array.getElem?_setIfInBounds_ne (by omega)]
      rw [hset]
      by_cases hh : off + (k + 1) ≤ i ∧ i < off + (k + 1) + l.length
      · rw [if_pos hh, if_pos (by omega)]
        have : i - off - k = (i - off - (k + 1)) + 1 := by omega
        rw [this]; simp
      · rw [if_neg hh, if_neg (by omega)]

theorem fill_rel {ρ : Nat → Option Value} {S : Nat → Prop} {w : World} {place : Nat → Option (Nat × Nat)} : ∀ (ps : List (Nat × List V)) (us : List (Nat × Value)) (cs : List V) (cells : Array Value) (r : List V), CRel ρ S w cs cells →
    ps.length = us.length → (∀ k, k < ps.length → (ps.getD k (0, [])).1 = (us.getD k (0, undef)).1 ∧ CRel ρ S w (ps.getD k (0, [])).2 (us.getD k (0, undef)).2.cells) → fillV place cs ps = some r → ∃ cells', Instr.fill place cells us = some cells' ∧ CRel ρ S w r cells'
  | [], [], cs, cells, r, hc, _, _, h => by
    simp only [fillV, Option.some.injEq] at h
    subst h
    exact ⟨cells, rfl, hc⟩
  | (i, v) :: ps, (i', u) :: us, cs, cells, r, hc, hl, hp, h => by
    have h0 := hp 0 (by simp)
    simp only [List.getD_cons_zero] at h0
    obtain ⟨e, hv⟩ := h0
    subst e
    simp only [fillV] at h
    split at h
    · cases h
    · rename_i off size hpl
      cases hb : (Nat.beq v.length size && Nat.ble (off + v.length) cs.length) with
      | false => rw [hb] at h; cases h
      | true =>
        rw [hb] at h
        simp only [cond_true] at h
        simp only [Bool.and_eq_true] at hb
        have hb1 := Nat.eq_of_beq_eq_true hb.1
        have hb2 := Nat.le_of_ble_eq_true hb.2
        obtain ⟨hc1, hc2⟩ := hc
        obtain ⟨hv1, hv2⟩ := hv
        have hfold := foldl_put off u.cells.toList 0 cells (by simp; omega)
        have ez : (u.cells.zipIdx.foldl (fun cs (c, j) => cs.setIfInBounds (off + j) c) cells) = ((u.cells.toList.zipIdx 0).foldl (fun cs (x : Value × Nat) => cs.setIfInBounds (off + x.2) x.1) cells) := by
          rw [← Array.foldl_toList, Array.toList_zipIdx]
        obtain ⟨cells', g1, g2⟩ := fill_rel ps us (setAt off v cs) (u.cells.zipIdx.foldl (fun cs (c, j) => cs.setIfInBounds (off + j) c) cells) r
          ⟨by rw [ez, hfold.1, length_setAt]; exact hc1, fun j hj => by
            rw [length_setAt] at hj
            rw [cAt_setAt _ _ _ hb2, ez, hfold.2 j (by omega)]
            simp only [Nat.add_zero, Nat.sub_zero, Array.length_toList, hv1]
            by_cases hh : off ≤ j ∧ j < off + v.length
            · rw [if_pos hh, if_pos hh]
              have := hv2 (j - off) (by omega)
              have e2 : u.cells.toList.getD (j - off) undef = u.cells.getD (j - off) undef := by rw [List.getD_eq_getElem?_getD, Array.getD_eq_getD_getElem?]; simp
              rw [e2]; exact this
            · rw [if_neg hh, if_neg hh]; exact hc2 j hj⟩
          (by simpa using hl) (fun k hk => by have := hp (k + 1) (by simp; omega); simpa using this) h
        refine ⟨cells', ?_, g2⟩
        simp only [Instr.fill, hpl]
        rw [if_neg (by simp; omega)]
        exact g1
theorem partsE_spec {ρ : Nat → Option Value} {S : Nat → Prop} {w : World} {nt : Nat} {env : List (Nat × V)} {a : Act} (hE : ERel ρ S w nt env a) (hρ : ∀ id x, ρ id = some x → x.oneCell' = true) : ∀ {xs : List (Nat × Operand)} {ps : List (Nat × List V)}, partsE env xs = some ps →
    ps.length = (xs.map fun (i, x) => (i, a.eval x)).length ∧ ∀ k, k < ps.length → (ps.getD k (0, [])).1 = ((xs.map fun (i, x) => (i, a.eval x)).getD k (0, undef)).1 ∧ CRel ρ S w (ps.getD k (0, [])).2 ((xs.map fun (i, x) => (i, a.eval x)).getD k (0, undef)).2.cells
  | [], ps, h => by
    simp only [partsE, Option.some.injEq] at h
    subst h
    exact ⟨rfl, fun k hk => by simp at hk⟩
  | (i, x) :: r, ps, h => by
    simp only [partsE] at h
    split at h
    · rename_i v hv
      split at h
      · rename_i cs ps' h1 h2
        injection h with h; subst h
        obtain ⟨e1, e2⟩ := partsE_spec hE hρ h2
        refine ⟨by simp [e1], fun k hk => ?_⟩
        cases k with
        | zero => exact ⟨rfl, flat_spec (opE_sound hE hv) h1 hρ⟩
        | succ k => have := e2 k (by simpa using hk); simpa using this
      · cases h
    · cases h
theorem q_build {T : TypeId} {parts : Array (Nat × Operand)} {ps : List (Nat × List V)} {pl : Nat → Option (Nat × Nat)} {z cs : List V} (ho : o.op = .build T parts) (hz : zeroT P T = some z) (hpl : placeT P T = some pl) (hp : partsE st.env parts.toList = some ps) (hf : fillV pl z ps = some cs) :
    QStep P G o st (.agg cs) := q_of_run fun F base w0 ρ a w hH hE => by
  obtain ⟨zv, rfl, hz2, hz3⟩ := zeroT_spec hz
  obtain ⟨e1, e2⟩ := partsE_spec hE (fun id x h => (hH.sup id x h).2) hp
  obtain ⟨cells', g1, g2⟩ := fill_rel (place := pl) ps _ _ zv.cells cs (lits_rel (ρ := ρ) (S := Stab F ρ st.heap) (w := w) hz2) e1 e2 hf
  have hbuilt : P.built T ((parts.map fun (i, x) => (i, a.eval x)).toList) = some cells' := by
    rw [Array.toList_map]
    unfold placeT at hpl
    unfold Program.built
    split at hpl
    · rename_i it N e hit hu
      rw [hit, hu]
      simp only []
      split at hpl
      · rename_i z ie hz0 hie
        injection hpl with hpl; subst hpl
        have hzz := hz3 w
        simp [zeroValue, typeInfo, hit, hz0, Sem.run_bind, Sem.run_pure, program, Sem.run] at hzz
        subst hzz
        rw [hz0, hie]
        exact g1
      · cases hpl
    · rename_i it fields hit hu
      rw [hit, hu]
      simp only []
      split at hpl
      · rename_i z places hz0 hie
        injection hpl with hpl; subst hpl
        have hzz := hz3 w
        simp [zeroValue, typeInfo, hit, hz0, Sem.run_bind, Sem.run_pure, program, Sem.run] at hzz
        subst hzz
        rw [hz0, hie]
        simpa using g1
      · cases hpl
    · cases hpl
  refine ⟨.agg cells', .agg g2.1 (fun j hj => (g2.2 j hj).1), fun w' => ?_⟩
  unfold execOp; rw [ho]
  simp only [Sem.run_bind, run_build w' T _ cells' hbuilt]; rfl
end
end Go.Proofs.Ytnbbnedpjfanoaa
