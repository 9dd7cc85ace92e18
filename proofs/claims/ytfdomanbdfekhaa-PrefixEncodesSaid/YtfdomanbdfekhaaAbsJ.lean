/- A VALUE CALCULUS OVER THE MODEL: bytes made out of a string, the call's own, and what is appended to them. Plain lemmas, over any program. -/
import Derived.Test.YtfdomanbdfekhaaGA
import Derived.Laws.IdiomCopy
set_option linter.unusedSimpArgs false
set_option linter.unusedVariables false
namespace Go.Proofs.Ytfdomanbdfekhaa
open Go.RowKit
theorem setCells_row {e : TypeId} {g : Nat} {fz : Nat × Nat} : ∀ (vs : List Value) (o : Nat) (w : World) (cur : Array Value), w.heap[g]? = some (.cells cur e fz) → o + vs.length ≤ cur.size →
    ∃ cur', (w.setCells g o vs).heap[g]? = some (.cells cur' e fz) ∧ cur'.size = cur.size ∧ (∀ j, j < o → cur'.getD j undef = cur.getD j undef) ∧ (∀ j, j < vs.length → cur'.getD (o + j) undef = vs.getD j undef) ∧ w.grownBy (w.setCells g o vs) (some g)
  | [], o, w, cur, hg, hl => ⟨cur, hg, rfl, fun _ _ => rfl, fun j hj => by simp at hj, ⟨rfl, rfl, rfl, Nat.le_refl _, fun _ _ _ => rfl⟩⟩
  | v :: r, o, w, cur, hg, hl => by
    rw [List.length_cons] at hl
    have h1 : (w.setCell ⟨g, o, none⟩ v).heap[g]? = some (.cells (cur.setIfInBounds o v) e fz) := by
      unfold World.setCell
      simp [Array.getElem?_modify, hg]
    obtain ⟨cur', q1, q2, q3, q4, q5⟩ := setCells_row r (o + 1) (w.setCell ⟨g, o, none⟩ v) (cur.setIfInBounds o v) h1 (by rw [Array.size_setIfInBounds]; omega)
    refine ⟨cur', q1, by rw [q2, Array.size_setIfInBounds], fun j hj => ?_, fun j hj => ?_, ?_⟩
    · rw [q3 j (by omega), Array.getD_eq_getD_getElem?, Array.getD_eq_getD_getElem?, Array.getElem?_setIfInBounds_ne (by omega)]
    · cases j with
      | zero =>
        rw [Nat.add_zero, q3 o (by omega), Array.getD_eq_getD_getElem?, Array.getElem?_setIfInBounds_self_of_lt (by omega)]
        rfl
      | succ j =>
        have := q4 j (by simpa using hj)
        rw [show o + (j + 1) = o + 1 + j by omega, this]; simp
    · exact ⟨q5.os, q5.tape, q5.output, by
        have h9 : (w.setCell ⟨g, o, none⟩ v).heap.size = w.heap.size := by unfold World.setCell; simp
        show w.heap.size ≤ ((w.setCell ⟨g, o, none⟩ v).setCells g (o + 1) r).heap.size
        rw [← h9]; exact q5.size, fun k hk hne => by
        have h2 := q5.block k (by simpa [World.setCell] using hk) hne
        have h3 : (w.setCell ⟨g, o, none⟩ v).heap[k]? = w.heap[k]? := by
          unfold World.setCell
          have : g ≠ k := fun e => hne (by rw [e])
          simp [Array.getElem?_modify, this]
        show ((w.setCell ⟨g, o, none⟩ v).setCells g (o + 1) r).heap[k]? = _
        rw [h2, h3]⟩
/-- bytes in a row: as BRel tells of them -/
def ByteRow (w : World) (g cap : Nat) (cur : Array Value) (e : TypeId) (fz : Nat × Nat) (l : List UInt8) : Prop :=
  w.heap[g]? = some (.cells cur e fz) ∧ (l.length ≤ cap ∧ cap ≤ maxLen ∧ cap ≤ cur.size) ∧ (∀ j, j < cap → ¬ (fz.1 ≤ j ∧ j < fz.2)) ∧ (∀ j, j < l.length → cur.getD j undef = .int .u8 ((l.getD j default).toNat : Int))
theorem appB_run {P : Program} {w : World} {t u ty e : TypeId} {i : TypeInfo} (ht : P.underlying t = some (.slice e)) (hu : P.underlying u = some .string) (hi : P.info? e = some i) (hz : i.zero = some (.int .u8 0)) (hsize : i.size = 1) (hby : i.bytes = 1)
    {g cap : Nat} {cur : Array Value} {fz : Nat × Nat} {l : List UInt8} (h : ByteRow w g cap cur e fz l) (bs : List UInt8) (hb : l.length + bs.length ≤ 140737488355328) :
    ∃ g' cap' cur' fz' w', (Builtin.append_ #[t, u] ty #[.slice (some ⟨g, 0, none⟩) l.length cap, .string (strB bs)]).run P w = .ok (.slice (some ⟨g', 0, none⟩) (l ++ bs).length cap') w' ∧ ByteRow w' g' cap' cur' e fz' (l ++ bs) ∧ w.grownBy w' (some g) ∧ (g' = g ∨ w.heap.size ≤ g') := by
  obtain ⟨hg, ⟨c1, c2, c3⟩, hf, hc⟩ := h
  have hs : (strB bs).size = bs.length := strB_size bs
  have hnews : Lib.strCells (strB bs) = bs.map fun c => .int .u8 (c.toNat : Int) := by unfold Lib.strCells; rw [strB_list]
  have hla : (l ++ bs).length = l.length + bs.length := List.length_append
  have hcell : ∀ j, j < cur.size → w.cell? ⟨g, j, none⟩ = some (cur.getD j undef) := fun j hj => by
    simp [World.cell?, hg, Array.getD_eq_getD_getElem?, Array.getElem?_eq_getElem hj]
  by_cases hroom : l.length + bs.length ≤ cap
  · have hst := run_storeCells_cells (P := P) g l.length (Lib.strCells (strB bs)) 0 w
      (fun j hj => by
        rw [Lib.strCells_length, hs] at hj
        rw [Nat.add_zero, hcell _ (by omega)]; rfl)
      (fun j hj => by
        rw [Lib.strCells_length, hs] at hj
        have := hf (l.length + j) (by omega)
        unfold World.frozen?
        rw [show (⟨g, l.length + 0 + j, none⟩ : Addr).block = g from rfl, hg]
        dsimp only
        rw [Nat.add_zero]
        cases hd : (decide (fz.1 ≤ l.length + j) && decide (l.length + j < fz.2)) with
        | false => rfl
        | true =>
          rw [Bool.and_eq_true, decide_eq_true_eq, decide_eq_true_eq] at hd
          exact absurd hd this)
      (Lib.strCells_oneCell (strB bs))
    rw [Nat.add_zero] at hst
    have hfc := Lib.run_firstCells_string (P := P) w 1 (strB bs)
    rw [hs] at hfc
    have hr : (Builtin.append_ #[t, u] ty #[.slice (some ⟨g, 0, none⟩) l.length cap, .string (strB bs)]).run P w = .ok (.slice (some ⟨g, 0, none⟩) (l.length + bs.length) cap) (w.setCells g l.length (Lib.strCells (strB bs))) := by
      simp [Builtin.append_, run_underlying ht, run_underlying hu, sizeOf, typeInfo, hi, hsize, Builtin.lenOf, hs, hroom, hfc, Addr.add_lit, hst]
    obtain ⟨cur', q1, q2, q3, q4, q5⟩ := setCells_row (Lib.strCells (strB bs)) l.length w cur hg (by rw [Lib.strCells_length, hs]; omega)
    refine ⟨g, cap, cur', fz, _, by rw [hla]; exact hr, ⟨q1, ⟨by omega, c2, by omega⟩, hf, fun j hj => ?_⟩, q5, .inl rfl⟩
    rw [hla] at hj
    by_cases hjl : j < l.length
    · rw [q3 j hjl, hc j hjl]
      congr 3
      rw [List.getD_eq_getElem?_getD, List.getD_eq_getElem?_getD, List.getElem?_append_left hjl]
    · obtain ⟨m, rfl⟩ : ∃ m, j = l.length + m := ⟨j - l.length, by omega⟩
      rw [q4 m (by rw [Lib.strCells_length, hs]; omega), hnews, List.getD_eq_getElem?_getD, List.getElem?_map, List.getElem?_eq_getElem (by omega), List.getD_eq_getElem?_getD, List.getElem?_append_right (by omega), show l.length + m - l.length = m by omega, List.getElem?_eq_getElem (by omega)]
      rfl
  · have hr := Lib.run_append_grow_string (P := P) w t u ty e i (.int .u8 0) ht hu hi hz ⟨g, 0, none⟩ l.length cap (l.map fun c => .int .u8 (c.toNat : Int)) (by rw [hsize, List.length_map]; omega)
      (fun j v hv => by
        rw [List.getElem?_map] at hv
        have hj : j < l.length := by
          rcases Nat.lt_or_ge j l.length with h | h
          · exact h
          · rw [List.getElem?_eq_none h] at hv; cases hv
        rw [List.getElem?_eq_getElem hj] at hv
        injection hv with hv
        rw [Addr.add_lit, Nat.zero_add, hcell j (by omega), hc j hj, ← hv, List.getD_eq_getElem?_getD, List.getElem?_eq_getElem hj]; rfl)
      (strB bs) (by rw [hs]; omega) (by rw [hs]; omega) (by rw [hby, hs]; exact growslice_fits (by omega) (by omega))
    rw [hs] at hr
    have hge := grownCap_ge w (l.length + bs.length) cap e
    have hcm : grownCap w (l.length + bs.length) cap e ≤ maxLen := grownCap_le_maxLen w (l.length + bs.length) cap e (by unfold maxLen; omega)
    have hz1 : (Value.int IntKind.u8 0).cells.size = 1 := rfl
    refine ⟨w.heap.size, _, _, (0, 0), _, by rw [hla]; exact hr, ⟨heap_alloc_new w.drew _, ⟨by omega, hcm, ?_⟩, fun j _ h => by omega, fun j hj => ?_⟩, ⟨rfl, rfl, rfl, by simp, fun k hk _ => heap_alloc_old w.drew _ hk⟩, .inr (Nat.le_refl _)⟩
    · simp only [Array.size_append, List.size_toArray, size_zeroCells, hz1, List.length_map, Lib.strCells_length, hs]
      omega
    · rw [hla] at hj
      rw [Array.getD_eq_getD_getElem?, Array.getElem?_append_left (by simp only [Array.size_append, List.size_toArray, List.length_map, Lib.strCells_length, hs]; omega), List.append_toArray, List.getElem?_toArray, hnews, ← List.map_append, List.getElem?_map, List.getElem?_eq_getElem (by rw [List.length_append]; omega), List.getD_eq_getElem?_getD, List.getElem?_eq_getElem (by rw [List.length_append]; omega)]
      rfl
section
variable {P : Program} {o : Oper} {st : St} {k d : Nat}
/-- bytes out of a string, as the call's own -/
theorem g_strOwn {T U e : TypeId} {x : Operand} {l : List UInt8} (ho : o.op = .convert T U x) (hd : o.dst = some d) (hdn : Nat.blt d st.nt = true) (hx : opE st.env x = some (.lit (.string (strB l)))) (hT : P.underlying T = some .string) (hU : P.underlying U = some (.slice e)) (he : P.underlying e = some (.int .u8)) (h63 : l.length ≤ 140737488355328) :
    GAt P k o st (st.newAt k d (.own k) (.brow e l)) := fun F base w0 ρ a w hH hE hnn hk => by
  have hrun := run_bytes_of_string (P := P) w T U e (strB l) hT hU he
  have hsz : (strB l).size = l.length := strB_size l
  generalize hcap : grownCap w (strB l).size 0 e = cap at hrun
  have hge : l.length ≤ cap := by rw [← hcap, ← hsz]; exact grownCap_ge w _ 0 e
  have hmx : cap ≤ maxLen := by rw [← hcap]; exact grownCap_le_maxLen w _ 0 e (by unfold maxLen; omega)
  rw [hsz] at hrun
  have hcell : ∀ i, i < l.length → (bytesRow (strB l) cap).getD i undef = .int .u8 ((l.getD i default).toNat : Int) := fun i hi => by
    unfold bytesRow
    rw [Array.getD_eq_getD_getElem?, Array.getElem?_append_left (by simp [strB, hi]), Array.getElem?_map]
    have : (strB l).data[i]? = some (l.getD i default) := by
      simp only [strB, List.getElem?_toArray, List.getElem?_eq_getElem hi, List.getD_eq_getElem?_getD, Option.getD_some]
    rw [this]; rfl
  have hrl : (bytesRow (strB l) cap).size = cap := by
    unfold bytesRow
    rw [Array.size_append, Array.size_map, Array.size_replicate]
    have : (strB l).data.size = l.length := hsz
    omega
  generalize bytesRow (strB l) cap = R at hrun hcell hrl
  have hb : Below w.heap.size w (w.drew.alloc (.cells R e (R.size, R.size + 1))) := by
    have := below_alloc w.drew (.cells R e (R.size, R.size + 1))
    exact ⟨this.os, this.tape, this.output, this.size, this.block⟩
  refine wp_of_value (u := .slice (some ⟨w.heap.size, 0, none⟩) l.length cap) (w' := w.drew.alloc (.cells R e (R.size, R.size + 1))) ?_ ?_
  · unfold execOp; rw [ho]; simp only []; rw [lit_inv (opE_sound hE hx)]
    simp only [Sem.run_bind, hrun]; rfl
  · rw [hd]
    refine next_new hH hE hnn hk hb (fun _ b hbb => by simp only [blockOf, Option.some.injEq] at hbb; omega) (Nat.le_of_ble_eq_true hdn) rfl (fun S hS _ hsame => ?_) (fun S => .own (upd_same _ _ _))
    exact ⟨w.heap.size, cap, R, (R.size, R.size + 1), upd_same _ _ _, hH.hbase _ (Nat.le_refl _), heap_alloc_new w.drew _, ⟨hge, hmx, by omega⟩, fun j hj h => by have h1 : R.size ≤ j := h.1; omega, hcell⟩
theorem a_appB {x y : Operand} {t u e id : Nat} {l bs : List UInt8} (ho : o.op = .call { callee := .builtin .append, args := #[x, y], argTypes := #[t, u] }) (hd : o.dst = some d) (hdn : Nat.blt d st.nt = true)
    (hx : opE st.env x = some (.own id)) (hh : getH st.heap id = some (.brow e l)) (hy : opE st.env y = some (.lit (.string (strB bs))))
    (ht : P.underlying t = some (.slice e)) (hut : P.underlying u = some .string) (hzi : u8Z P e = true) (hby : l.length + bs.length ≤ 140737488355328) :
    GAt P k o st { env := (d, .own k) :: st.env, heap := (k, some (.brow e (l ++ bs))) :: (id, none) :: st.heap, next := st.next, nt := st.nt } := fun F base w0 ρ a w hH hE hnn hk => by
  obtain ⟨i, hi, hz1, hsz, hbb⟩ := u8_info hzi
  have hxv := own_inv (opE_sound hE hx)
  obtain ⟨g, cap, cur, fz, h1, h2b, hrow⟩ := hH.blk _ _ hh
  rw [hxv] at h1; injection h1 with h1
  have hu := lit_inv (opE_sound hE hy)
  obtain ⟨g', cap', cur', fz', w', hr, hrow', hg, hblk⟩ := appB_run (P := P) (ty := o.type) ht hut hi hz1 hsz hbb hrow bs hby
  have hbx : blockOf (a.eval x) = some g := by rw [h1]; rfl
  have hid : id ≠ k := fun e => by rw [e, hnn] at hxv; cases hxv
  generalize hv' : Value.slice (some ⟨g', 0, none⟩) (l ++ bs).length cap' = v' at hr
  have hv'1 : v'.oneCell' = true := by rw [← hv']; rfl
  have hbv : blockOf v' = some g' := by rw [← hv']; rfl
  have hext : ∀ id x, ρ id = some x → upd ρ k v' id = some x := fun id x h => by rw [upd_ne _ _ (fun e => by rw [e, hnn] at h; cases h)]; exact h
  refine wp_of_value (u := v') (w' := w') ?_ ?_
  · unfold execOp; rw [ho]
    simp only [resolve, invoke, builtin, Sem.run_bind, Sem.run_pure, Result.andThen_ok, List.map_toArray, List.map_cons, List.map_nil, hu, h1, hr]
  · rw [hd]
    obtain ⟨q1, q2, q3⟩ := hH.step (ρ' := upd ρ k v') (heap' := (k, some (.brow e (l ++ bs))) :: (id, none) :: st.heap) (next' := st.next) k (some g) hg
      (fun kk hk => by
        injection hk with hk; subst hk
        exact ⟨h2b, fun hst => hst.2 id _ _ hh rfl hxv hbx⟩) hext
      (fun id x h => by
        by_cases e : id = k
        · rw [e, upd_same] at h; injection h with h; subst h; exact ⟨by omega, hv'1⟩
        · rw [upd_ne _ _ e] at h; have := hH.sup _ _ h; exact ⟨by omega, this.2⟩)
      (fun j B hne hB => by
        rw [getH_new, if_neg (Ne.symm hne), getH_new] at hB
        split at hB
        · cases hB
        · rename_i hji
          refine ⟨hB, ?_⟩
          obtain ⟨u, hu⟩ := hH.some_of hB
          exact ⟨u, hu, fun ho b hb e => hji (hH.inj id j _ B _ u b hh hB rfl ho hxv hu (by rw [hbx]; exact e) hb)⟩)
      (fun B u b hB hoB hu hb => by
        rw [upd_same] at hu; injection hu with hu; subst hu
        rw [hbv] at hb; injection hb with hb; subst hb
        rcases hblk with hblk | hblk
        · subst hblk
          refine .inr ⟨fun hst => hst.2 id _ _ hh rfl hxv hbx, fun j B' u' hne hB' ho' hu' hb' => ?_⟩
          rw [getH_new, if_neg (Ne.symm hne), getH_new] at hB'
          split at hB'
          · cases hB'
          · rename_i hji
            rw [upd_ne _ _ hne] at hu'
            exact hji (hH.inj id j _ B' _ u' _ hh hB' rfl ho' hxv hu' hbx hb')
        · exact .inl hblk)
      (fun B hB hS hsame => by
        rw [getH_new, if_pos rfl] at hB; injection hB with hB; subst hB
        exact ⟨g', cap', cur', fz', by rw [upd_same, hv'], hblk.elim (fun hblk => by rw [hblk]; exact h2b) (fun hblk => hH.hbase _ hblk), hrow'⟩)
    refine ⟨upd ρ k v', q1, ?_, fun id u h => hext id u h, fun id hid => upd_ne _ _ (by omega)⟩
    exact (hE.mono q2 q3 hext).put (Nat.le_of_ble_eq_true hdn) (.own (upd_same _ _ _))
end
section
variable {P : Program} {o : Oper} {n0 : Nat} {ops : List Oper} {rest : List Oper} {env : List (Nat × V)} {heap : List (Nat × Option Blk)} {next nt : Nat} {Q : St → Prop}
theorem s_strOwn {T U e : TypeId} {x : Operand} {a : ByteArray} {l : List UInt8} {d : Nat} (h63 : l.length ≤ 140737488355328) (ho : o.op = .convert T U x := by rfl) (hx : opE env x = some (.lit (.string a)) := by rfl) (ha : a = strB l := by rfl) (hT : P.underlying T = some .string := by rfl) (hU : P.underlying U = some (.slice e) := by rfl) (he : P.underlying e = some (.int .u8) := by rfl)
    (hg : guardV env ops o.guard = some true := by rfl) (hd : o.dst = some d := by rfl) (hdn : Nat.blt d nt = true := by rfl) (hn0 : Nat.ble n0 next = true := by rfl)
    (h : RunL P n0 ops.toArray rest ⟨(d, .own next) :: env, (next, some (.brow e l)) :: heap, next + 1, nt⟩ Q) : RunL P n0 ops.toArray (o :: rest) ⟨env, heap, next, nt⟩ Q := by
  subst ha
  exact l_g hg (gstep_of_at (Nat.le_of_ble_eq_true hn0) (g_strOwn (st := { env := env, heap := heap, next := next + 1, nt := nt }) ho hd hdn hx hT hU he h63)) h
theorem s_appB {x y : Operand} {t u e id d : Nat} {l r : List UInt8} {a : ByteArray} {bs : List UInt8} (hr : l ++ bs = r) (hby : l.length + bs.length ≤ 140737488355328) (ho : o.op = .call { callee := .builtin .append, args := #[x, y], argTypes := #[t, u] } := by rfl)
    (hx : opE env x = some (.own id) := by rfl) (hh : getH heap id = some (.brow e l) := by rfl) (hy : opE env y = some (.lit (.string a)) := by rfl) (ha : a = strB bs := by rfl) (ht : P.underlying t = some (.slice e) := by rfl) (hut : P.underlying u = some .string := by rfl) (hzi : u8Z P e = true := by rfl)
    (hg : guardV env ops o.guard = some true := by rfl) (hd : o.dst = some d := by rfl) (hdn : Nat.blt d nt = true := by rfl) (hn0 : Nat.ble n0 next = true := by rfl)
    (h : RunL P n0 ops.toArray rest ⟨(d, .own next) :: env, (next, some (.brow e r)) :: (id, none) :: heap, next + 1, nt⟩ Q) : RunL P n0 ops.toArray (o :: rest) ⟨env, heap, next, nt⟩ Q := by
  subst hr ha
  exact l_g hg (gstep_of_at (Nat.le_of_ble_eq_true hn0) (a_appB (st := { env := env, heap := heap, next := next + 1, nt := nt }) ho hd hdn hx hh hy ht hut hzi hby)) h
/-- from then on nobody writes them -/
theorem less_bfro {e id : Nat} {l : List UInt8} {st : St} (hh : getH st.heap id = some (.brow e l)) : Less P n0 st { st with heap := (id, some (.fro (l.map encB))) :: st.heap } := fun F base w0 ρ a w hH hE => by
  obtain ⟨g, cap, cur, fz, h1, h2, h3, ⟨c1, c2, c3⟩, h5, h6⟩ := hH.blk _ _ hh
  have hS : ∀ b, Stab F ρ st.heap b → Stab F ρ ((id, some (.fro (l.map encB))) :: st.heap) b := fun b h => ⟨h.1, fun j B u hB ho hu => by
    rw [getH_new] at hB
    split at hB
    · injection hB with hB; subst hB; cases ho
    · exact h.2 j B u hB ho hu⟩
  have hSo : Stab F ρ ((id, some (.fro (l.map encB))) :: st.heap) g := by
    have hob := hH.owned hh rfl h1 rfl
    refine ⟨hH.hF g hob.1, fun j B u hB ho hu hub => ?_⟩
    rw [getH_new] at hB
    split at hB
    · injection hB with hB; subst hB; cases ho
    · rename_i hji
      exact hji (hH.inj id j _ B _ u g hh hB rfl ho h1 hu rfl hub)
  refine ⟨ρ, ⟨⟨hH.below, hH.hbase, hH.sup, fun i j B B' u u' b hB hB' ho ho' hu hu' hb hb' => ?_, fun j B hB => ?_⟩, hH.hF⟩, hE.mono (Same.refl _ _) (fun b h _ => hS b h) (fun _ _ h => h), fun _ _ => rfl⟩
  · rw [getH_new] at hB hB'
    split at hB
    · injection hB with hB; subst hB; cases ho
    · split at hB'
      · injection hB' with hB'; subst hB'; cases ho'
      · exact hH.inj i j B B' u u' b hB hB' ho ho' hu hu' hb hb'
  · rw [getH_new] at hB
    split at hB
    · rename_i e; subst e
      injection hB with hB; subst hB
      have hlm : (l.map encB).length = l.length := List.length_map _
      refine ⟨_, h1, ?_, fun a n c hr => by injection hr with hr; injection hr with hr; rw [← hr]⟩
      rw [← hlm]
      refine .ro (l.map encB) (some ⟨g, 0, none⟩) cap 1 g 0 (fun i j => .int .u8 ((l.getD i default).toNat : Int)) (by rw [hlm]; exact c1) c2 (by omega) (fun _ => ⟨rfl, hSo⟩) (fun i hi => by rw [hlm] at hi; rw [eAt_map encB hi]; rfl) (fun i j hi hj => ?_) (fun i j hi hj => ?_)
      · rw [hlm] at hi
        have hj0 : j = 0 := by omega
        subst hj0
        have h7 := h6 i hi
        rw [Array.getD_eq_getD_getElem?, Array.getElem?_eq_getElem (by omega)] at h7
        simp [World.cell?, h3, Array.getElem?_eq_getElem (show i < cur.size by omega)]
        simpa using h7
      · rw [hlm] at hi
        have hj0 : j = 0 := by omega
        subst hj0
        rw [eAt_map encB hi]
        exact .lit _ rfl
    · exact (hH.blk j B hB).mono (Same.refl _ _) (fun b h _ => hS b h) (fun _ _ h => h) (fun _ _ _ _ _ _ => rfl)
end
end Go.Proofs.Ytfdomanbdfekhaa
