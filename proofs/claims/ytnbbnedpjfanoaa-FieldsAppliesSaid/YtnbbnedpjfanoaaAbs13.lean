/-
  A VALUE CALCULUS OVER THE MODEL, part 13: slices that are built and made, bytes out of strings, appends as steps, structs compared. Plain lemmas, over any program.
-/
import Derived.Test.YtnbbnedpjfanoaaAbs12
import Derived.Great.BuildSlice
import Derived.Laws.StructEq
set_option linter.unusedVariables false
set_option linter.unusedSimpArgs false
set_option linter.unusedVariables false
namespace Go.Proofs.Ytnbbnedpjfanoaa
open Go.RowKit
section
variable {P : Program} {G : List Nat} {o : Oper} {st : St} {n0 : Nat}

/-! ### A slice literal -/
/-- the elements of a slice literal of len elements of s cells: z the zero cells of one -/
def rowsV (s : Nat) : Nat → List V → List (List V)
  | 0, _ => []
  | n + 1, cs => cs.take s :: rowsV s n (cs.drop s)
def zerosV (z : List V) : Nat → List V
  | 0 => []
  | n + 1 => z ++ zerosV z n
def sliceV (P : Program) (e len : Nat) (ps : List (Nat × List V)) : Option (List (List V)) :=
  match sizeT P e, zeroT P e with
  | some s, some z => bif Nat.beq z.length s && Nat.blt 0 s then (match fillV (fun i => some (i * s, s)) (zerosV z len) ps with
    | some cs => some (rowsV s len cs)
    | none => none) else none
  | _, _ => none
theorem rowsV_length (s : Nat) : ∀ (n : Nat) (cs : List V), (rowsV s n cs).length = n
  | 0, _ => rfl
  | n + 1, cs => by simp [rowsV, rowsV_length s n]
theorem rowsV_get (s : Nat) : ∀ (n : Nat) (cs : List V), cs.length = n * s → ∀ i, i < n → (eAt (rowsV s n cs) i).length = s ∧ ∀ j, j < s → cAt (eAt (rowsV s n cs) i) j = cAt cs (i * s + j)
  | 0, _, _, i, h => by omega
  | n + 1, cs, hl, i, hi => by
    have hm : (n + 1) * s = n * s + s := Nat.succ_mul n s
    cases i with
    | zero =>
      have e : eAt (rowsV s (n + 1) cs) 0 = cs.take s := rfl
      rw [e]
      refine ⟨by simp; omega, fun j hj => ?_⟩
      unfold cAt
      rw [List.getD_eq_getElem?_getD, List.getD_eq_getElem?_getD, List.getElem?_take, if_pos hj, Nat.zero_mul, Nat.zero_add]
    | succ i =>
      have e : eAt (rowsV s (n + 1) cs) (i + 1) = eAt (rowsV s n (cs.drop s)) i := by simp [rowsV, eAt]
      rw [e]
      obtain ⟨h1, h2⟩ := rowsV_get s n (cs.drop s) (by simp; omega) i (by omega)
      refine ⟨h1, fun j hj => ?_⟩
      rw [h2 j hj, cAt_drop]
      congr 1
      rw [Nat.succ_mul]; omega
theorem zeros_rel {ρ : Nat → Option Value} {S : Nat → Prop} {w : World} {z : List V} {zs : Array Value} (h : CRel ρ S w z zs) (h0 : 0 < z.length) (n : Nat) : CRel ρ S w (zerosV z n) ((Array.range (n * z.length)).map (zs[· % zs.size]!)) := by
  have hlen : ∀ n, (zerosV z n).length = n * z.length := by
    intro n
    induction n with
    | zero => simp [zerosV]
    | succ n ih => simp only [zerosV, List.length_append, ih]; rw [Nat.succ_mul]; omega
  have hc : ∀ n j, j < n * z.length → cAt (zerosV z n) j = cAt z (j % z.length) := by
    intro n
    induction n with
    | zero => intro j hj; omega
    | succ n ih =>
      intro j hj
      rw [Nat.succ_mul] at hj
      simp only [zerosV]
      unfold cAt
      rw [List.getD_eq_getElem?_getD, List.getElem?_append]
      split
      · rename_i hjz; rw [Nat.mod_eq_of_lt hjz, List.getD_eq_getElem?_getD]
      · rename_i hjz
        have := ih (j - z.length) (by omega)
        unfold cAt at this
        rw [← List.getD_eq_getElem?_getD, this, Nat.mod_eq_sub_mod (by omega : j ≥ z.length)]
  refine ⟨by simp [hlen], fun j hj => ?_⟩
  rw [hlen] at hj
  have hm : j % z.length < z.length := Nat.mod_lt _ h0
  have e : ((Array.range (n * z.length)).map (zs[· % zs.size]!)).getD j undef = zs.getD (j % z.length) undef := by
    rw [Array.getD_eq_getD_getElem?, Array.getElem?_map, Array.getElem?_range]
    simp only [hj, if_true, Option.map_some, Option.getD_some]
    rw [h.1, Array.getD_eq_getD_getElem?, getElem!_pos zs _ (by rw [h.1]; exact hm), Array.getElem?_eq_getElem (by rw [h.1]; exact hm)]; rfl
  rw [hc n j hj, e]
  exact h.2 _ hm

theorem sliceV_spec {e len : Nat} {ps : List (Nat × List V)} {l : List (List V)} (h : sliceV P e len ps = some l) : ∃ s z cs, sizeT P e = some s ∧ zeroT P e = some z ∧ z.length = s ∧ 0 < s ∧ fillV (fun i => some (i * s, s)) (zerosV z len) ps = some cs ∧ l = rowsV s len cs := by
  unfold sliceV at h
  split at h
  · rename_i s z hs hz
    cases hb : (Nat.beq z.length s && Nat.blt 0 s) with
    | false => rw [hb] at h; cases h
    | true =>
      rw [hb] at h
      simp only [cond_true] at h
      simp only [Bool.and_eq_true] at hb
      split at h
      · rename_i cs hcs
        injection h with h
        exact ⟨s, z, cs, hs, hz, Nat.eq_of_beq_eq_true hb.1, Nat.le_of_ble_eq_true hb.2, hcs, h.symm⟩
      · cases h
  · cases h
/-- what is built: the cells of a new block -/
theorem build_slice {t e len s : Nat} {parts : Array (Nat × Operand)} {ps : List (Nat × List V)} {z cs : List V} {F : Nat → Prop} {base : Nat → Prop} {ρ : Nat → Option Value} {w0 w : World} {a : Act}
    (hH : HRel F base ρ st.heap st.next w0 w) (hE : ERel ρ (Stab F ρ st.heap) w st.nt st.env a) (ht : P.underlying t = some (.slice e)) (hs : sizeT P e = some s) (hz : zeroT P e = some z) (hzl : z.length = s) (h0 : 0 < s) (hlen : 0 < len) (hsm : len * s ≤ 2 ^ 24) (hp : partsE st.env parts.toList = some ps) (hf : fillV (fun i => some (i * s, s)) (zerosV z len) ps = some cs) :
    ∃ us : Array Value, (Instr.buildSlice t len (parts.map fun (i, x) => (i, a.eval x))).run P w = .ok (.slice (some ⟨w.heap.size, 0, none⟩) len len) (w.alloc (.cells us e)) ∧ CRel ρ (Stab F ρ st.heap) w cs us ∧ cs.length = len * s := by
  obtain ⟨zv, rfl, hz2, hz3⟩ := zeroT_spec hz
  obtain ⟨e1, e2⟩ := partsE_spec hE (fun id x h => (hH.sup id x h).2) hp
  have hzr : CRel ρ (Stab F ρ st.heap) w (zv.cells.toList.map .lit) zv.cells := lits_rel hz2
  have hzz := zeros_rel hzr (by omega) len
  rw [hzl] at hzz
  obtain ⟨cells', g1, g2⟩ := fill_rel (place := fun i => some (i * s, s)) ps _ _ _ cs hzz e1 e2 hf
  unfold sizeT at hs
  cases hi : P.info? e with
  | none => rw [hi] at hs; cases hs
  | some ie =>
    rw [hi] at hs
    simp only [Option.map_some, Option.some.injEq] at hs
    have hiz : ie.zero = some zv := by
      have h3 := hz3 w
      simp [zeroValue, typeInfo, hi, Sem.run_bind, Sem.run_pure, program, Sem.run] at h3
      cases hzo : ie.zero with
      | none => rw [hzo] at h3; cases h3
      | some z' => rw [hzo] at h3; injection h3 with h3 _; rw [h3]
    subst hs
    have hm : 0 < len * ie.size := Nat.mul_pos hlen h0
    have hlenV : ∀ n, (zerosV (zv.cells.toList.map V.lit) n).length = n * ie.size := by
      intro n
      induction n with
      | zero => simp [zerosV]
      | succ n ih => simp only [zerosV, List.length_append, ih, hzl]; rw [Nat.succ_mul]; omega
    have hfl : ∀ (pl : Nat → Option (Nat × Nat)) (ps : List (Nat × List V)) (c r : List V), fillV pl c ps = some r → r.length = c.length := by
      intro pl ps
      induction ps with
      | nil => intro c r h; simp only [fillV, Option.some.injEq] at h; rw [h]
      | cons p ps ih =>
        intro c r h
        obtain ⟨i, v⟩ := p
        simp only [fillV] at h
        split at h
        · cases h
        · rename_i off size _
          cases hb : (Nat.beq v.length size && Nat.ble (off + v.length) c.length) with
          | false => rw [hb] at h; cases h
          | true => rw [hb] at h; rw [ih _ _ h, length_setAt]
    exact ⟨cells', run_buildSlice w t e len _ cells' ie zv ht hi hiz (by omega) (by omega) (by rw [Array.toList_map]; exact g1), g2, by rw [hfl _ _ _ _ hf, hlenV]⟩
theorem all_pure {l : List (List V)} (h : l.all (fun cs => cs.all pureV) = true) {i j : Nat} (hi : i < l.length) (hj : j < (eAt l i).length) : pureV (cAt (eAt l i) j) = true := by
  rw [List.all_eq_true] at h
  have h1 := h (eAt l i) (by unfold eAt; rw [List.getD_eq_getElem?_getD, List.getElem?_eq_getElem hi]; exact List.getElem_mem hi)
  rw [List.all_eq_true] at h1
  refine h1 _ ?_
  unfold cAt; rw [List.getD_eq_getElem?_getD, List.getElem?_eq_getElem hj]; exact List.getElem_mem hj
theorem alloc_cell {w : World} {us : Array Value} {e : TypeId} {i : Nat} (h : i < us.size) : (w.alloc (.cells us e)).cell? ⟨w.heap.size, i, none⟩ = some (us.getD i undef) := by
  have := alloc_cells w us e
  unfold World.cell?
  simp only [this, Option.isSome_none, Bool.false_eq_true, if_false]
  rw [Array.getElem?_eq_getElem h]
  simp [h]
/-- a slice literal that nobody writes any more -/
theorem g_lit {t e len d : Nat} {parts : Array (Nat × Operand)} {ps : List (Nat × List V)} {l : List (List V)} (ho : o.op = .buildSlice t len parts) (hd : o.dst = some d) (hdn : Nat.blt d st.nt = true) (ht : P.underlying t = some (.slice e)) (hp : partsE st.env parts.toList = some ps) (hl : sliceV P e len ps = some l) (hpu : l.all (fun cs => cs.all pureV) = true) (hlen : Nat.blt 0 len = true) (hsm : Nat.ble (len * (sizeT P e).getD 0) 16777216 = true) :
    GStep P n0 o st { st with env := (d, .ro l) :: st.env } := fun F base w0 ρ a w hH hE => by
  obtain ⟨s, z, cs, hs, hz, hzl, h0, hf, rfl⟩ := sliceV_spec hl
  rw [hs] at hsm
  obtain ⟨us, hrun, hc, hcl⟩ := build_slice hH hE ht hs hz hzl h0 (Nat.le_of_ble_eq_true hlen) (Nat.le_of_ble_eq_true hsm) hp hf
  refine wp_of_value (u := .slice (some ⟨w.heap.size, 0, none⟩) len len) (w' := w.alloc (.cells us e)) ?_ ?_
  · unfold execOp; rw [ho]
    simp only [Sem.run_bind, hrun]; rfl
  · rw [hd]
    have hb := below_alloc w (.cells us e)
    have hsame : Same (Stab F ρ st.heap) w (w.alloc (.cells us e)) := fun b _ hlt => hb.block b hlt
    refine ⟨ρ, hH.grow hb, (hE.mono hsame (fun b h _ => h) (fun _ _ h => h)).put (Nat.le_of_ble_eq_true hdn) (.pure ?_), fun _ _ h => h, fun _ _ => rfl⟩
    have hr := rowsV_get s len cs hcl
    have hlr := rowsV_length s len cs
    have h24 : len ≤ 16777216 := Nat.le_trans (Nat.le_mul_of_pos_right len h0) (Nat.le_of_ble_eq_true hsm)
    have := PRel.ro (S := Stab F ρ st.heap) (w := w.alloc (.cells us e)) (rowsV s len cs) (some ⟨w.heap.size, 0, none⟩) len s w.heap.size 0 (fun i j => us.getD (i * s + j) undef) (by rw [hlr]; exact Nat.le_refl _) (by unfold maxLen; omega) h0 (fun _ => ⟨rfl, stab_new hH (Nat.le_refl _)⟩)
      (fun i hi => (hr i (by rw [hlr] at hi; exact hi)).1)
      (fun i j hi hj => by
        rw [hlr] at hi
        have h1 : (i + 1) * s ≤ len * s := Nat.mul_le_mul_right s hi
        have h2 : (i + 1) * s = i * s + s := Nat.succ_mul i s
        rw [Nat.zero_add]
        exact alloc_cell (by rw [hc.1, hcl]; omega))
      (fun i j hi hj => by
        have hi2 := hi
        rw [hlr] at hi
        have h1 : (i + 1) * s ≤ len * s := Nat.mul_le_mul_right s hi
        have h2 : (i + 1) * s = i * s + s := Nat.succ_mul i s
        have hpp := all_pure hpu hi2 (by rw [(hr i hi).1]; exact hj)
        rw [(hr i hi).2 j hj] at hpp ⊢
        exact pure_rel ((hc.2 (i * s + j) (by rw [hcl]; omega)).1.mono hsame (fun b h _ => h) (fun _ _ h => h)) hpp)
    rwa [hlr] at this
/-- a slice literal of the call's own -/
theorem a_lit {k t e len d : Nat} {parts : Array (Nat × Operand)} {ps : List (Nat × List V)} {l : List (List V)} (ho : o.op = .buildSlice t len parts) (hd : o.dst = some d) (hdn : Nat.blt d st.nt = true) (ht : P.underlying t = some (.slice e)) (hp : partsE st.env parts.toList = some ps) (hl : sliceV P e len ps = some l) (hpu : l.all (fun cs => cs.all pureV) = true) (hlen : Nat.blt 0 len = true) (hsm : Nat.ble (len * (sizeT P e).getD 0) 16777216 = true) :
    GAt P k o st (st.newAt k d (.own k) (.row e ((sizeT P e).getD 0) l)) := fun F base w0 ρ a w hH hE hnn hk => by
  obtain ⟨s, z, cs, hs, hz, hzl, h0, hf, rfl⟩ := sliceV_spec hl
  rw [hs] at hsm
  obtain ⟨us, hrun, hc, hcl⟩ := build_slice hH hE ht hs hz hzl h0 (Nat.le_of_ble_eq_true hlen) (Nat.le_of_ble_eq_true hsm) hp hf
  refine wp_of_value (u := .slice (some ⟨w.heap.size, 0, none⟩) len len) (w' := w.alloc (.cells us e)) ?_ ?_
  · unfold execOp; rw [ho]
    simp only [Sem.run_bind, hrun]; rfl
  · rw [hd]
    have hr := rowsV_get s len cs hcl
    have hlr := rowsV_length s len cs
    have h24 : len ≤ 16777216 := Nat.le_trans (Nat.le_mul_of_pos_right len h0) (Nat.le_of_ble_eq_true hsm)
    refine next_new hH hE hnn hk (below_alloc _ _) (fun _ b hb => by simp only [blockOf, Option.some.injEq] at hb; omega) (Nat.le_of_ble_eq_true hdn) rfl (fun S hS _ hsame => ?_) (fun S => .own (upd_same _ _ _))
    rw [hs]
    refine ⟨h0, _, us.toList, upd_same _ _ _, ⟨⟨by rw [hlr, Array.length_toList, hc.1, hcl]; rfl, .inr ⟨w.heap.size, len, us, by rw [hlr], Nat.zero_le _, alloc_cells _ _ _, by rw [hlr]; exact Nat.le_refl _, by unfold maxLen; omega, by rw [hc.1, hcl]; rfl, ?_⟩⟩, fun b hb => ?_⟩, fun i hi => (hr i (by rw [hlr] at hi; exact hi)).1, fun i j hi hj => ?_⟩
    · rw [hlr, List.take_of_length_le]
      rw [Array.length_toList, hc.1, hcl]; exact Nat.le_refl _
    · simp only [blockOf, Option.some.injEq] at hb; exact hH.hbase b (by omega)
    · have hi2 := hi
      rw [hlr] at hi
      have h1 : (i + 1) * s ≤ len * s := Nat.mul_le_mul_right s hi
      have h2 : (i + 1) * s = i * s + s := Nat.succ_mul i s
      have hj : j < s := hj
      have hpp := all_pure hpu hi2 (by rw [(hr i hi).1]; exact hj)
      rw [(hr i hi).2 j hj] at hpp
      have hcc := hc.2 (i * s + j) (by rw [hcl]; omega)
      refine ⟨us.getD (i * s + j) undef, ?_, ?_, hcc.2⟩
      · show us.toList[i * s + j]? = _
        rw [Array.getElem?_toList, Array.getElem?_eq_getElem (by rw [hc.1, hcl]; omega), Array.getD_eq_getD_getElem?, Array.getElem?_eq_getElem (by rw [hc.1, hcl]; omega)]; rfl
      · rw [(hr i hi).2 j hj]
        exact (pure_rel hcc.1 hpp).mono hsame hS

/-! ### Structs of plain cells, compared -/
def eqP (P : Program) (xs ys : List V) : List Field → Option Prop
  | [] => some True
  | f :: fs => match P.underlying f.type, xs[f.offset]?, ys[f.offset]?, eqP P xs ys fs with
    | some (.int _), some (.lit (.int k m)), some (.lit (.int k' n)), some p => bif decide (k = k') then some (m = n ∧ p) else none
    | some .bool, some (.lit (.bool m)), some (.lit (.bool n)), some p => some (m = n ∧ p)
    | some .string, some (.lit (.string m)), some (.lit (.string n)), some p => some (m = n ∧ p)
    | _, _, _, _ => none
theorem eqP_spec {ρ : Nat → Option Value} {S : Nat → Prop} {w : World} {xs ys : List V} {us vs : Array Value} (hx : us.size = xs.length ∧ ∀ j, j < xs.length → VRel ρ S w (cAt xs j) (us.getD j undef)) (hy : vs.size = ys.length ∧ ∀ j, j < ys.length → VRel ρ S w (cAt ys j) (vs.getD j undef)) (d : Nat) :
    ∀ (fs : List Field) (p : Prop), eqP P xs ys fs = some p → fs.all (fun f => !(f.name == "_")) = true → ∃ b : Bool, (b = true ↔ p) ∧ ∀ w', (Op.eqFields (d + 1) us vs fs).run P w' = .ok b w'
  | [], p, h, _ => by
    simp only [eqP, Option.some.injEq] at h
    subst h
    exact ⟨true, by simp, fun w' => by simp [Op.eqFields, Sem.run_pure]⟩
  | f :: fs, p, h, hn => by
    simp only [List.all_cons, Bool.and_eq_true] at hn
    have hne : f.name ≠ "_" := by
      have := hn.1
      simpa using this
    have get : ∀ {zs : List V} {ws : Array Value} {u : Value}, (ws.size = zs.length ∧ ∀ j, j < zs.length → VRel ρ S w (cAt zs j) (ws.getD j undef)) → zs[f.offset]? = some (.lit u) → ws[f.offset]? = some u := by
      intro zs ws u hz h
      have hlt := (List.getElem?_eq_some_iff.1 h).1
      have := hz.2 _ hlt
      have e : cAt zs f.offset = .lit u := by unfold cAt; rw [List.getD_eq_getElem?_getD, h]; rfl
      rw [e] at this
      have := lit_inv this
      rw [Array.getD_eq_getD_getElem?, Array.getElem?_eq_getElem (by omega)] at this
      rw [Array.getElem?_eq_getElem (by omega)]
      simpa using this
    have hpart : ∀ {zs : Array Value} {u : Value} {w' : World}, aggT P f.type = some false → zs[f.offset]? = some u → (part f.type zs f.offset).run P w' = .ok u w' := by
      intro zs u w' ha hz
      simp [part, run_aggT ha, Sem.run_bind, hz, Sem.run_pure]
    simp only [eqP] at h
    split at h
    · rename_i k0 k m k' n q hu h1 h2 hq
      cases hk : decide (k = k') with
      | false => rw [hk] at h; cases h
      | true =>
        rw [hk] at h
        simp only [cond_true, Option.some.injEq] at h
        have hk := of_decide_eq_true hk
        subst hk; subst h
        obtain ⟨b, hb, hr⟩ := eqP_spec hx hy d fs q hq hn.2
        have ha : aggT P f.type = some false := by unfold aggT; rw [hu]
        refine ⟨decide (m = n) && b, by rw [Bool.and_eq_true, decide_eq_true_eq, hb], fun w' => ?_⟩
        have he := run_equalIn_int (P := P) w' d f.type k k0 m n hu
        rw [beq_dec] at he
        simp only [Op.eqFields, if_pos hne, Sem.run_bind, hpart ha (get hx h1), hpart ha (get hy h2), Result.andThen_ok, he]
        by_cases hmn : m = n
        · simp [hmn, hr]
        · simp [hmn, Sem.run_pure]
    · rename_i m n q hu h1 h2 hq
      injection h with h; subst h
      obtain ⟨b, hb, hr⟩ := eqP_spec hx hy d fs q hq hn.2
      have ha : aggT P f.type = some false := by unfold aggT; rw [hu]
      refine ⟨decide (m = n) && b, by rw [Bool.and_eq_true, decide_eq_true_eq, hb], fun w' => ?_⟩
      have he := run_equalIn_bool (P := P) w' d f.type m n hu
      have e : (m == n) = decide (m = n) := by cases m <;> cases n <;> rfl
      rw [e] at he
      simp only [Op.eqFields, if_pos hne, Sem.run_bind, hpart ha (get hx h1), hpart ha (get hy h2), Result.andThen_ok, he]
      by_cases hmn : m = n
      · simp [hmn, hr]
      · simp [hmn, Sem.run_pure]
    · rename_i m n q hu h1 h2 hq
      injection h with h; subst h
      obtain ⟨b, hb, hr⟩ := eqP_spec hx hy d fs q hq hn.2
      have ha : aggT P f.type = some false := by unfold aggT; rw [hu]
      refine ⟨decide (m = n) && b, by rw [Bool.and_eq_true, decide_eq_true_eq, hb], fun w' => ?_⟩
      have he := run_equalIn_string (P := P) w' d f.type m n hu
      rw [ba_eq] at he
      simp only [Op.eqFields, if_pos hne, Sem.run_bind, hpart ha (get hx h1), hpart ha (get hy h2), Result.andThen_ok, he]
      by_cases hmn : m = n
      · simp [hmn, hr]
      · simp [hmn, Sem.run_pure]
    · cases h
theorem agg_inv {ρ : Nat → Option Value} {S : Nat → Prop} {w : World} {cs : List V} {u : Value} (h : VRel ρ S w (.agg cs) u) : ∃ us, u = .agg us ∧ us.size = cs.length ∧ ∀ j, j < cs.length → VRel ρ S w (cAt cs j) (us.getD j undef) := by
  cases h with
  | pure h => cases h
  | agg hn h => exact ⟨_, rfl, hn, h⟩
theorem q_struct_eql {T yt : TypeId} {x y : Operand} {xs ys : List V} {fs : Array Field} {p : Prop} (ho : o.op = .binOp .eql T x y yt) (hx : opE st.env x = some (.agg xs)) (hy : opE st.env y = some (.agg ys)) (hT : P.underlying T = some (.struct fs)) (hp : eqP P xs ys fs.toList = some p)
    (hn : fs.toList.all (fun f => !(f.name == "_")) = true) (hs : P.stoodInHeld T = false) (hm : P.eqGuardType P.depth T = false) : (p → QStep P G o st (.lit (.bool true))) ∧ (¬ p → QStep P G o st (.lit (.bool false))) := by
  have hf : P.fieldsOf T = fs := by unfold Program.fieldsOf; rw [hT]
  have key : ∀ bb : Bool, (bb = true ↔ p) → QStep P G o st (.lit (.bool bb)) := fun bb hbb => q_of_run fun F base w0 ρ a w hH hE => by
    refine ⟨_, .pure (.lit _ rfl), fun w' => ?_⟩
    obtain ⟨us, e1, e2, e3⟩ := agg_inv (opE_sound hE hx)
    obtain ⟨vs, f1, f2, f3⟩ := agg_inv (opE_sound hE hy)
    obtain ⟨b, hb, hr⟩ := eqP_spec (P := P) ⟨e2, e3⟩ ⟨f2, f3⟩ 9998 fs.toList p hp hn
    have hbe : b = bb := by rw [Bool.eq_iff_iff, hb, hbb]
    unfold execOp; rw [ho]; simp only []; rw [e1, f1]
    have h1 := run_eqGuard_agg (P := P) w' .eql T x y us vs hm
    have h2 := run_eql_struct (P := P) w' T us vs
    rw [run_equalIn_agg w' 9999 T us vs (by rw [hf]; exact hT) hs, hf, hr] at h2
    simp only [Sem.run_bind, h1, Result.andThen_ok, h2, hbe]; rfl
  exact ⟨fun h => key true (by simp [h]), fun h => key false (by simp [h])⟩

section
variable {ops : List Oper} {rest : List Oper} {env : List (Nat × V)} {heap : List (Nat × Option Blk)} {next nt : Nat} {Q : St → Prop}
/-- lists written out -/
inductive NormL : List (List V) → List (List V) → Prop
  | nil : NormL [] []
  | cons {c d : List V} {cs ds : List (List V)} (h : Norm c d) (hs : NormL cs ds) : NormL (c :: cs) (d :: ds)
theorem NormL.eq {cs ds : List (List V)} (h : NormL cs ds) : cs = ds := by
  induction h with
  | nil => rfl
  | cons h hs ih => rw [h.eq, ih]
theorem s_quo {T yt : TypeId} {x y : Operand} {k : IntKind} {m n : Int} {d : Nat} (ho : o.op = .binOp .quo T x y yt := by rfl) (hx : opE env x = some (.lit (.int k m)) := by rfl) (hy : opE env y = some (.lit (.int k n)) := by rfl) (hm : 0 ≤ m := by omega) (hn : 0 < n := by omega) (hw : k.wrap (m / n) = m / n := by first | (rw [IntKind.wrap_i64]; omega) | (rw [IntKind.wrap_u64]; omega) | (rw [IntKind.wrap_u8]; omega)) (hg : guardV env ops o.guard = some true := by rfl) (hd : o.dst = some d := by rfl) (hdn : Nat.blt d nt = true := by rfl)
    (h : RunL P n0 ops.toArray rest ⟨(d, .lit (.int k (m / n))) :: env, heap, next, nt⟩ Q) : RunL P n0 ops.toArray (o :: rest) ⟨env, heap, next, nt⟩ Q := by
  have := q_quo (P := P) (G := []) (st := ⟨env, heap, next, nt⟩) ho hx hy (by omega)
  rw [Int.tdiv_eq_ediv_of_nonneg hm, hw] at this
  exact x_q hg hd hdn this h
theorem s_rem {T yt : TypeId} {x y : Operand} {k : IntKind} {m n : Int} {d : Nat} (ho : o.op = .binOp .rem T x y yt := by rfl) (hx : opE env x = some (.lit (.int k m)) := by rfl) (hy : opE env y = some (.lit (.int k n)) := by rfl) (hm : 0 ≤ m := by omega) (hn : 0 < n := by omega) (hg : guardV env ops o.guard = some true := by rfl) (hd : o.dst = some d := by rfl) (hdn : Nat.blt d nt = true := by rfl)
    (h : RunL P n0 ops.toArray rest ⟨(d, .lit (.int k (m % n))) :: env, heap, next, nt⟩ Q) : RunL P n0 ops.toArray (o :: rest) ⟨env, heap, next, nt⟩ Q := by
  have := q_rem (P := P) (G := []) (st := ⟨env, heap, next, nt⟩) ho hx hy (by omega)
  rw [Int.tmod_eq_emod_of_nonneg hm] at this
  exact x_q hg hd hdn this h
theorem s_eqs {T yt : TypeId} {x y : Operand} {xs ys : List V} {fs : Array Field} {p : Prop} {d : Nat} (ho : o.op = .binOp .eql T x y yt := by rfl) (hx : opE env x = some (.agg xs) := by rfl) (hy : opE env y = some (.agg ys) := by rfl) (hT : P.underlying T = some (.struct fs) := by rfl) (hp : eqP P xs ys fs.toList = some p := by rfl) (hg : guardV env ops o.guard = some true := by rfl) (hd : o.dst = some d := by rfl) (hdn : Nat.blt d nt = true := by rfl)
    (hn : fs.toList.all (fun f => !(f.name == "_")) = true := by kernel_rfl) (hs : P.stoodInHeld T = false := by kernel_rfl) (hm : P.eqGuardType P.depth T = false := by kernel_rfl)
    (ht : p → RunL P n0 ops.toArray rest ⟨(d, .lit (.bool true)) :: env, heap, next, nt⟩ Q) (hf : ¬ p → RunL P n0 ops.toArray rest ⟨(d, .lit (.bool false)) :: env, heap, next, nt⟩ Q) : RunL P n0 ops.toArray (o :: rest) ⟨env, heap, next, nt⟩ Q := by
  have h := q_struct_eql (P := P) (G := []) (st := ⟨env, heap, next, nt⟩) ho hx hy hT hp hn hs hm
  by_cases hp : p
  · exact x_q hg hd hdn (h.1 hp) (ht hp)
  · exact x_q hg hd hdn (h.2 hp) (hf hp)
/-- a slice literal, as data -/
theorem s_lit {t e len d : Nat} {parts : Array (Nat × Operand)} {ps : List (Nat × List V)} {l l' : List (List V)} (ho : o.op = .buildSlice t len parts := by rfl) (ht : P.underlying t = some (.slice e) := by rfl) (hp : partsE env parts.toList = some ps := by rfl) (hl : sliceV P e len ps = some l := by rfl) (hN : NormL l l' := by repeat' (first | exact NormL.nil | apply NormL.cons | exact Norm.nil | apply Norm.cons)) (hpu : l'.all (fun cs => cs.all pureV) = true := by rfl) (hg : guardV env ops o.guard = some true := by rfl) (hd : o.dst = some d := by rfl) (hdn : Nat.blt d nt = true := by rfl) (hlen : Nat.blt 0 len = true := by rfl) (hsm : Nat.ble (len * (sizeT P e).getD 0) 16777216 = true := by rfl)
    (h : RunL P n0 ops.toArray rest ⟨(d, .ro l') :: env, heap, next, nt⟩ Q) : RunL P n0 ops.toArray (o :: rest) ⟨env, heap, next, nt⟩ Q := by
  have e := hN.eq
  subst e
  exact l_g hg (g_lit (st := ⟨env, heap, next, nt⟩) ho hd hdn ht hp hl hpu hlen hsm) h
/-- a slice literal of the call's own -/
theorem s_row {t e len d s : Nat} {parts : Array (Nat × Operand)} {ps : List (Nat × List V)} {l l' : List (List V)} (ho : o.op = .buildSlice t len parts := by rfl) (ht : P.underlying t = some (.slice e) := by rfl) (hs : (sizeT P e).getD 0 = s := by rfl) (hp : partsE env parts.toList = some ps := by rfl) (hl : sliceV P e len ps = some l := by rfl) (hN : NormL l l' := by repeat' (first | exact NormL.nil | apply NormL.cons | exact Norm.nil | apply Norm.cons)) (hpu : l'.all (fun cs => cs.all pureV) = true := by rfl) (hg : guardV env ops o.guard = some true := by rfl) (hd : o.dst = some d := by rfl) (hdn : Nat.blt d nt = true := by rfl) (hn0 : Nat.ble n0 next = true := by rfl) (hlen : Nat.blt 0 len = true := by rfl) (hsm : Nat.ble (len * (sizeT P e).getD 0) 16777216 = true := by rfl)
    (h : RunL P n0 ops.toArray rest ⟨(d, .own next) :: env, (next, some (.row e s l')) :: heap, next + 1, nt⟩ Q) : RunL P n0 ops.toArray (o :: rest) ⟨env, heap, next, nt⟩ Q := by
  have e := hN.eq
  subst e
  subst hs
  exact l_g hg (gstep_of_at (Nat.le_of_ble_eq_true hn0) (a_lit (st := { env := env, heap := heap, next := next + 1, nt := nt }) ho hd hdn ht hp hl hpu hlen hsm)) h
end
end
end Go.Proofs.Ytnbbnedpjfanoaa
