/-
  A VALUE CALCULUS OVER THE MODEL, part 8: appends, slices that are made, conversions, parts of slices. Plain lemmas, over any program.
-/
import Derived.Test.YtnbbnedpjfanoaaAbs7
import Derived.Laws.BytesString
import Derived.Deep.OwnRows
import Derived.Lib.AppendStr
set_option linter.unusedVariables false
set_option linter.unusedSimpArgs false
set_option linter.unusedVariables false
namespace Go.Proofs.Ytnbbnedpjfanoaa
open Go.RowKit
section
variable {P : Program} {G : List Nat} {o : Oper} {st : St} {n0 : Nat}

/-! ### What is appended -/
def srcV (heap : List (Nat × Option Blk)) : V → Option (List (List V))
  | .ro l => some l
  | .lit (.slice none 0 _) => some []
  | .own id => match getH heap id with
    | some (.row _ _ l) => some l
    | some (.fro l) => some l
    | _ => none
  | _ => none
theorem ro_src {S : Nat → Prop} {w : World} {l : List (List V)} {u : Value} {s : Nat} (h : PRel S w (.ro l) u) (hs : ∀ i, i < l.length → (eAt l i).length = s) :
    ∃ A c, ∃ news : List Value, u = .slice A l.length c ∧ news.length = l.length * s ∧ (l.length = 0 ∨ ∃ a, A = some a ∧ ∀ j u, news[j]? = some u → w.cell? (a.add j) = some u) ∧ ∀ i j, i < l.length → j < s → ∃ u, news[i * s + j]? = some u ∧ PRel S w (cAt (eAt l i) j) u := by
  generalize hv : V.ro l = v at h
  cases h with
  | lit => cases hv
  | ro l' A c s' b off us hc hm hp hA hsz hcell hrel =>
    injection hv with hv; subst hv
    by_cases h0 : 0 < l.length
    · have e : s' = s := by rw [← hsz 0 h0, hs 0 h0]
      subst e
      refine ⟨A, c, (List.range (l.length * s')).map fun k => us (k / s') (k % s'), rfl, by simp, .inr ⟨⟨b, off, none⟩, (hA h0).1, fun j u hj => ?_⟩, fun i j hi hj => ⟨us i j, ?_, hrel i j hi hj⟩⟩
      · have hlt : j < l.length * s' := by
          have := (List.getElem?_eq_some_iff.1 hj).1
          simpa using this
        have hu : us (j / s') (j % s') = u := by
          rw [List.getElem?_map, List.getElem?_range hlt] at hj
          simpa using hj
        have hd : j / s' < l.length := Nat.div_lt_of_lt_mul (by rw [Nat.mul_comm]; exact hlt)
        have := hcell (j / s') (j % s') hd (Nat.mod_lt _ hp)
        have hdm : j / s' * s' + j % s' = j := by rw [Nat.mul_comm]; exact Nat.div_add_mod j s'
        rw [add_addr, ← hu, ← this, Nat.add_assoc, hdm]
      · have hlt : i * s' + j < l.length * s' := by
          have : (i + 1) * s' ≤ l.length * s' := Nat.mul_le_mul_right s' hi
          have h2 : (i + 1) * s' = i * s' + s' := Nat.succ_mul i s'
          omega
        rw [List.getElem?_map, List.getElem?_range hlt]
        have h1 : (i * s' + j) / s' = i := by
          rw [Nat.mul_comm, Nat.mul_add_div hp, Nat.div_eq_of_lt hj]; rfl
        have h2 : (i * s' + j) % s' = j := by
          rw [Nat.mul_comm, Nat.mul_add_mod, Nat.mod_eq_of_lt hj]
        simp [h1, h2]
    · have hl0 : l.length = 0 := by omega
      refine ⟨A, c, [], rfl, by simp [hl0], .inl hl0, fun i j hi => by omega⟩
theorem src_spec {F : Nat → Prop} {base : Nat → Prop} {ρ : Nat → Option Value} {heap : List (Nat × Option Blk)} {next : Nat} {w0 w : World} (hH : HRel0 F base ρ heap next w0 w) {v : V} {u : Value} (h : VRel ρ (Stab F ρ heap) w v u) {l : List (List V)} (hv : srcV heap v = some l) {s : Nat} (hs : ∀ i, i < l.length → (eAt l i).length = s) (h0 : 0 < s) :
    ∃ A c, ∃ news : List Value, u = .slice A l.length c ∧ news.length = l.length * s ∧ (l.length = 0 ∨ ∃ a, A = some a ∧ ∀ j u, news[j]? = some u → w.cell? (a.add j) = some u) ∧ ∀ i j, i < l.length → j < s → ∃ u, news[i * s + j]? = some u ∧ PRel (Stab F ρ heap) w (cAt (eAt l i) j) u := by
  cases v with
  | ro l' =>
    simp only [srcV, Option.some.injEq] at hv
    subst hv
    cases h with
    | pure h => exact ro_src h hs
  | lit x =>
    have e := lit_inv h
    subst e
    cases u with
    | slice A n c =>
      cases A with
      | none =>
        cases n with
        | zero =>
          simp only [srcV, Option.some.injEq] at hv
          subst hv
          exact ⟨none, c, [], rfl, by simp, .inl rfl, fun i j hi => by simp at hi⟩
        | succ => simp [srcV] at hv
      | some => simp [srcV] at hv
    | _ => simp [srcV] at hv
  | own id =>
    have h1 := own_inv h
    simp only [srcV] at hv
    split at hv
    · rename_i e s' l' hh
      injection hv with hv; subst hv
      obtain ⟨g0, v, xs, g1, ⟨g2, _⟩, g3, g4⟩ := hH.blk _ _ hh
      rw [h1] at g1; injection g1 with g1; subst g1
      by_cases hl0 : 0 < l'.length
      · have es : s' = s := by rw [← g3 0 hl0, hs 0 hl0]
        subst es
        rcases g2.2 with ⟨_, hn⟩ | ⟨g, cap, cur, hvv, _⟩
        · omega
        · subst hvv
          exact ⟨_, _, xs, rfl, g2.1, .inr ⟨_, rfl, g2.cells rfl⟩, fun i j hi hj => by obtain ⟨u, q1, q2, _⟩ := g4 i j hi hj; exact ⟨u, q1, q2⟩⟩
      · have hn : l'.length = 0 := by omega
        rcases g2.2 with ⟨rfl, _⟩ | ⟨g, cap, cur, rfl, _⟩
        · exact ⟨_, _, [], by rw [hn], by simp [hn], .inl hn, fun i j hi => by omega⟩
        · exact ⟨_, _, [], rfl, by simp [hn], .inl hn, fun i j hi => by omega⟩
    · rename_i l' hh
      injection hv with hv; subst hv
      obtain ⟨v, g1, g2, g3⟩ := hH.blk _ _ hh
      rw [h1] at g1; injection g1 with g1; subst g1
      exact ro_src g2 hs
    · cases hv
  | _ => simp [srcV] at hv

/-! ### Append -/
theorem app_run {base : Nat} {w : World} {t ty e : TypeId} {i : TypeInfo} {z : Value} {s by_ : Nat} (ht : P.underlying t = some (.slice e)) (hi : P.info? e = some i) (hz : i.zero = some z) (hs : i.size = s) (hb : i.bytes = by_) (hzs : z.cells.size = s) (h0 : 0 < s)
    {v : Value} {n : Nat} {xs : List Value} (hown : w.ownsRow base e s v n xs) {A : Option Addr} {m c : Nat} {news : List Value} (hl : news.length = m * s) (hA : m = 0 ∨ ∃ a, A = some a ∧ ∀ j u, news[j]? = some u → w.cell? (a.add j) = some u) (h1 : ∀ u ∈ news, u.oneCell' = true)
    (h63 : n + m ≤ maxLen) (hby : (n + m) * by_ ≤ 140737488355328) (hbase : base ≤ w.heap.size) :
    ∃ v' w', (Builtin.append_ #[t, t] ty #[v, .slice A m c]).run P w = .ok v' w' ∧ w'.ownsRow base e s v' (n + m) (xs ++ news) ∧ w.grownBy w' v.ownBlock ∧ (blockOf v' = blockOf v ∨ ∀ b, blockOf v' = some b → w.heap.size ≤ b) := by
  have key : ∀ a : Addr, A = some a → (∀ j u, news[j]? = some u → w.cell? (a.add j) = some u) → ∃ v' w', (Builtin.append_ #[t, t] ty #[v, .slice A m c]).run P w = .ok v' w' ∧ w'.ownsRow base e s v' (n + m) (xs ++ news) ∧ w.grownBy w' v.ownBlock ∧ (blockOf v' = blockOf v ∨ ∀ b, blockOf v' = some b → w.heap.size ≤ b) := by
    rintro a rfl hnews
    obtain ⟨v', w', hr, ho, hg, hnil⟩ := run_append_own (P := P) (w := w) base t ty e i z s by_ ht hi hz hs hb hzs h0 v n xs hown a m c news hl hnews h1 h63 hby hbase
    refine ⟨v', w', hr, ho, hg, ?_⟩
    have hsmall : n + m ≤ 9223372036854775807 := by simp only [maxLen] at h63; omega
    subst hs hb
    rcases hown.2 with ⟨rfl, rfl⟩ | ⟨g, cap, cur, rfl, hbg, hgg, hnc, hcm, hcs, htake⟩
    · by_cases hm : m = 0
      · have := hnil.2 ⟨rfl, hm⟩
        rw [this]; exact .inl rfl
      · have hr2 := run_append_nil (P := P) w t ty e i z ht hi hz a m c news hl hnews (by omega) (by omega) (by have hb := hby; simp only [Nat.zero_add] at hb; omega)
        rw [hr] at hr2
        injection hr2 with e1 _
        rw [e1]
        exact .inr (fun b hb => by simp only [blockOf, Option.some.injEq] at hb; omega)
    · by_cases hroom : n + m ≤ cap
      · obtain ⟨w2, hr2, _⟩ := run_append_fits (P := P) (w := w) base t ty e i i.size ht hi rfl g n cap xs hown a m c news hl hnews h1 hroom
        rw [hr] at hr2
        injection hr2 with e1 _
        rw [e1]; exact .inl rfl
      · have hr2 := run_append_grow (P := P) w t ty e i z ht hi hz ⟨g, 0, none⟩ n cap xs hown.1 (hown.cells (g := g) rfl) a m c news hl hnews (by omega) (by omega) (growslice_fits (by omega) hby)
        rw [hr] at hr2
        injection hr2 with e1 _
        rw [e1]
        exact .inr (fun b hb => by simp only [blockOf, Option.some.injEq] at hb; omega)
  cases A with
  | some a =>
    rcases hA with hm | ⟨a', ha, hnews⟩
    · subst hm
      have hn : news = [] := List.eq_nil_of_length_eq_zero (by simpa using hl)
      subst hn
      exact key a rfl (fun j u h => by simp at h)
    · injection ha with ha; subst ha
      exact key a rfl hnews
  | none =>
    have hm : m = 0 := by rcases hA with h | ⟨a, h, _⟩; exact h; cases h
    subst hm
    have hn : news = [] := List.eq_nil_of_length_eq_zero (by simpa using hl)
    subst hn
    refine ⟨v, w, ?_, by simpa using hown, ⟨rfl, rfl, rfl, Nat.le_refl _, fun _ _ _ => rfl⟩, .inl rfl⟩
    rcases hown.2 with ⟨rfl, rfl⟩ | ⟨g, cap, cur, rfl, hbg, hgg, hnc, hcm, hcs, htake⟩
    · simp [Builtin.append_, run_underlying ht, sizeOf, typeInfo, hi, Builtin.lenOf, Builtin.firstCells, Sem.run_bind, Sem.run_pure, program, Sem.run]
    · simp [Builtin.append_, run_underlying ht, sizeOf, typeInfo, hi, Builtin.lenOf, Builtin.firstCells, Sem.run_bind, Sem.run_pure, program, Sem.run, hnc, storeCells]

/-- what a row's elements take -/
def bytesT (P : Program) (T : TypeId) : Option Nat := (P.info? T).map (·.bytes)
/-- all that the append law asks of an element's type -/
theorem elem_info {e s by_ : Nat} (hs : sizeT P e = some s) (hb : bytesT P e = some by_) (hz : ∃ z, zeroT P e = some z ∧ z.length = s) : ∃ i z, P.info? e = some i ∧ i.zero = some z ∧ i.size = s ∧ i.bytes = by_ ∧ z.cells.size = s := by
  obtain ⟨zv, hz1, hz2⟩ := hz
  unfold zeroT at hz1
  unfold sizeT at hs
  unfold bytesT at hb
  cases hi : P.info? e with
  | none => rw [hi] at hs; cases hs
  | some i =>
    rw [hi] at hs hb hz1
    simp only [Option.map_some, Option.some.injEq] at hs hb
    simp only [] at hz1
    cases hzz : i.zero with
    | none => rw [hzz] at hz1; cases hz1
    | some z =>
      rw [hzz] at hz1
      simp only [] at hz1
      cases hbb : z.cells.toList.all (fun u => u.oneCell') with
      | false => rw [hbb] at hz1; cases hz1
      | true =>
        rw [hbb] at hz1
        simp only [cond_true, Option.some.injEq] at hz1
        refine ⟨i, z, rfl, hzz, hs, hb, ?_⟩
        rw [← hz2, ← hz1]; simp

theorem PRel.one {S : Nat → Prop} {w : World} {v : V} {u : Value} (h : PRel S w v u) : u.oneCell' = true := by
  cases h with
  | lit _ h => exact h
  | ro => rfl
theorem pure_cells {S : Nat → Prop} {w : World} {l : List (List V)} {news : List Value} {s : Nat} (h0 : 0 < s) (hl : news.length = l.length * s) (h : ∀ i j, i < l.length → j < s → ∃ u, news[i * s + j]? = some u ∧ PRel S w (cAt (eAt l i) j) u) : ∀ u ∈ news, u.oneCell' = true := by
  intro u hu
  obtain ⟨k, hk, rfl⟩ := List.getElem_of_mem hu
  have hd : k / s < l.length := Nat.div_lt_of_lt_mul (by rw [Nat.mul_comm]; omega)
  obtain ⟨u, hu2, hp⟩ := h (k / s) (k % s) hd (Nat.mod_lt _ h0)
  have hdm : k / s * s + k % s = k := by rw [Nat.mul_comm]; exact Nat.div_add_mod k s
  rw [hdm, List.getElem?_eq_getElem hk] at hu2
  injection hu2 with hu2
  rw [hu2]
  exact hp.one
theorem eAt_append (l m : List (List V)) (i : Nat) : eAt (l ++ m) i = if i < l.length then eAt l i else eAt m (i - l.length) := by
  unfold eAt
  rw [List.getD_eq_getElem?_getD, List.getD_eq_getElem?_getD, List.getD_eq_getElem?_getD, List.getElem?_append]
  split <;> rfl

/-- an append onto a slice of the call's own -/
theorem a_append {k : Nat} {x y : Operand} {t e s by_ id d : Nat} {l m : List (List V)} {v : V} (ho : o.op = .call { callee := .builtin .append, args := #[x, y], argTypes := #[t, t] }) (hd : o.dst = some d) (hdn : Nat.blt d st.nt = true)
    (hx : opE st.env x = some (.own id)) (hh : getH st.heap id = some (.row e s l)) (hy : opE st.env y = some v) (hv : srcV st.heap v = some m)
    (ht : P.underlying t = some (.slice e)) (hs : sizeT P e = some s) (hb : bytesT P e = some by_) (hz : ∃ z, zeroT P e = some z ∧ z.length = s)
    (hm : ∀ i, i < m.length → (eAt m i).length = s) (hby : (l.length + m.length) * by_ ≤ 140737488355328) (h63 : l.length + m.length ≤ 9223372036854775807) :
    GAt P k o st { env := (d, .own k) :: st.env, heap := (k, some (.row e s (l ++ m))) :: (id, none) :: st.heap, next := st.next, nt := st.nt } := fun F base w0 ρ a w hH hE hnn hk => by
  obtain ⟨i, z, hi, hz1, hsz, hbb, hzs⟩ := elem_info hs hb hz
  have hxv := own_inv (opE_sound hE hx)
  obtain ⟨h0, r, xs, h1, ⟨h2, h2b⟩, h3, h4⟩ := hH.blk _ _ hh
  rw [hxv] at h1; injection h1 with h1; subst h1
  obtain ⟨A, c, news, hu, hnl, hA, hrel⟩ := src_spec hH.toHRel0 (opE_sound hE hy) hv hm h0
  have hone := pure_cells h0 hnl hrel
  obtain ⟨v', w', hr, hown, hg, hblk⟩ := app_run (P := P) (ty := o.type) ht hi hz1 hsz hbb hzs h0 h2 (c := c) hnl hA hone (by unfold maxLen; omega) hby (Nat.zero_le _)
  have hid : id ≠ k := fun e => by rw [e, hnn] at hxv; cases hxv
  have hext : ∀ id x, ρ id = some x → upd ρ k v' id = some x := fun id x h => by rw [upd_ne _ _ (fun e => by rw [e, hnn] at h; cases h)]; exact h
  have hob : ∀ b, (a.eval x).ownBlock = some b → blockOf (a.eval x) = some b := fun b hb => by
    cases hav : a.eval x <;> rw [hav] at hb <;> simp [Value.ownBlock] at hb
    rename_i a0 _ _
    cases a0 <;> simp_all [Value.ownBlock, blockOf]
  have hv'1 : v'.oneCell' = true := by rcases hown.2 with ⟨rfl, _⟩ | ⟨_, _, _, rfl, _⟩ <;> rfl
  refine wp_of_value (u := v') (w' := w') ?_ ?_
  · unfold execOp; rw [ho]
    simp only [resolve, invoke, builtin, Sem.run_bind, Sem.run_pure, Result.andThen_ok, List.map_toArray, List.map_cons, List.map_nil, hu, hr]
  · rw [hd]
    obtain ⟨q1, q2, q3⟩ := hH.step (ρ' := upd ρ k v') (heap' := (k, some (.row e s (l ++ m))) :: (id, none) :: st.heap) (next' := st.next) k (a.eval x).ownBlock hg
      (fun kk hk => by
        have hbk := hob kk hk
        exact ⟨(hH.owned hh rfl hxv hbk).1, fun hst => hst.2 id _ _ hh rfl hxv hbk⟩) hext
      (fun id x h => by
        by_cases e : id = k
        · rw [e, upd_same] at h; injection h with h; subst h; exact ⟨by omega, hv'1⟩
        · rw [upd_ne _ _ e] at h; have := hH.sup _ _ h; exact ⟨by omega, this.2⟩)
      (fun j B hne hB => by
        rw [getH_new, if_neg (Ne.symm hne), getH_new] at hB
        split at hB
        · cases hB
        · rename_i hji
          refine ⟨hB, ?_⟩
          obtain ⟨u, hu⟩ := hH.some_of hB
          exact ⟨u, hu, fun ho b hb e => hji (hH.inj id j _ B _ u b hh hB rfl ho hxv hu (hob b e) hb)⟩)
      (fun B u b hB hoB hu hb => by
        rw [upd_same] at hu; injection hu with hu; subst hu
        rcases hblk with hblk | hblk
        · rw [hblk] at hb
          refine .inr ⟨fun hst => hst.2 id _ _ hh rfl hxv hb, fun j B' u' hne hB' ho' hu' hb' => ?_⟩
          rw [getH_new, if_neg (Ne.symm hne), getH_new] at hB'
          split at hB'
          · cases hB'
          · rename_i hji
            rw [upd_ne _ _ hne] at hu'
            exact hji (hH.inj id j _ B' _ u' b hh hB' rfl ho' hxv hu' hb hb')
        · exact .inl (hblk b hb))
      (fun B hB hS hsame => by
        rw [getH_new, if_pos rfl] at hB; injection hB with hB; subst hB
        refine ⟨h0, v', xs ++ news, upd_same _ _ _, ⟨(by rw [List.length_append]; exact hown), fun b hb => hblk.elim (fun hblk => h2b b (by rw [← hblk]; exact hb)) (fun hblk => hH.hbase b (hblk b hb))⟩, fun k hk => ?_, fun k j hk hj => ?_⟩
        · rw [eAt_append]
          split
          · rename_i hkl; exact h3 k hkl
          · rename_i hkl; rw [List.length_append] at hk; exact hm _ (by omega)
        · rw [eAt_append]
          have hxl : xs.length = l.length * s := h2.1
          split
          · rename_i hkl
            obtain ⟨u, g1, g2, g3⟩ := h4 k j hkl hj
            have hlt2 : k * s + j < l.length * s := by
              have h5 : (k + 1) * s ≤ l.length * s := Nat.mul_le_mul_right s hkl
              have h6 : (k + 1) * s = k * s + s := Nat.succ_mul k s
              omega
            exact ⟨u, by rw [List.getElem?_append_left (by omega)]; exact g1, g2.mono hsame hS, g3⟩
          · rename_i hkl
            rw [List.length_append] at hk
            obtain ⟨u, g1, g2⟩ := hrel (k - l.length) j (by omega) hj
            have h5 : (k - l.length) * s = k * s - l.length * s := Nat.sub_mul k l.length s
            have h6 : l.length * s ≤ k * s := Nat.mul_le_mul_right s (by omega)
            refine ⟨u, ?_, g2.mono hsame hS, ?_⟩
            · rw [List.getElem?_append_right (by omega), hxl, show k * s + j - l.length * s = (k - l.length) * s + j by omega]
              exact g1
            · exact g2.one)
    exact ⟨upd ρ k v', q1, (hE.mono q2 q3 hext).put (Nat.le_of_ble_eq_true hdn) (.own (upd_same _ _ _)), hext, fun j hj => upd_ne _ _ hj⟩
theorem g_append {x y : Operand} {t e s by_ id d : Nat} {l m : List (List V)} {v : V} (ho : o.op = .call { callee := .builtin .append, args := #[x, y], argTypes := #[t, t] }) (hd : o.dst = some d) (hdn : Nat.blt d st.nt = true) (hn0 : Nat.ble n0 st.next = true)
    (hx : opE st.env x = some (.own id)) (hh : getH st.heap id = some (.row e s l)) (hy : opE st.env y = some v) (hv : srcV st.heap v = some m)
    (ht : P.underlying t = some (.slice e)) (hs : sizeT P e = some s) (hb : bytesT P e = some by_) (hz : ∃ z, zeroT P e = some z ∧ z.length = s)
    (hm : ∀ i, i < m.length → (eAt m i).length = s) (hby : (l.length + m.length) * by_ ≤ 140737488355328) (h63 : l.length + m.length ≤ 9223372036854775807) :
    GStep P n0 o st { env := (d, .own st.next) :: st.env, heap := (st.next, some (.row e s (l ++ m))) :: (id, none) :: st.heap, next := st.next + 1, nt := st.nt } :=
  gstep_of_at (Nat.le_of_ble_eq_true hn0) (a_append (st := { st with next := st.next + 1 }) ho hd hdn hx hh hy hv ht hs hb hz hm hby h63)

/-- an empty slice becomes one of the call's own -/
theorem less_own {t n : Nat} {st : St} (e s : Nat) (h0 : Nat.blt 0 s = true) (hn0 : Nat.ble n0 st.next = true) (ht : getE st.env t = some (.lit (.slice none 0 0))) :
    Less P n0 st { env := (t, .own st.next) :: st.env, heap := (st.next, some (.row e s [])) :: st.heap, next := st.next + 1, nt := st.nt } := fun F base w0 ρ a w hH hE => by
  have hv := lit_inv (hE.slot t _ ht)
  have hnn : ρ st.next = none := by
    cases h : ρ st.next with
    | none => rfl
    | some x => exact absurd (hH.sup _ _ h).1 (Nat.lt_irrefl _)
  have hext : ∀ id x, ρ id = some x → upd ρ st.next (.slice none 0 0) id = some x := fun id x h => by rw [upd_ne _ _ (fun e => by rw [e, hnn] at h; cases h)]; exact h
  obtain ⟨q1, q2, q3⟩ := hH.step (ρ' := upd ρ st.next (.slice none 0 0)) (heap' := (st.next, some (.row e s [])) :: st.heap) (next' := st.next + 1) (w' := w) st.next none
    ⟨rfl, rfl, rfl, Nat.le_refl _, fun _ _ _ => rfl⟩ (fun k hk => by cases hk) hext
    (fun id x h => by
      by_cases e : id = st.next
      · rw [e, upd_same] at h; injection h with h; subst h; exact ⟨by omega, rfl⟩
      · rw [upd_ne _ _ e] at h; have := hH.sup _ _ h; exact ⟨by omega, this.2⟩)
    (fun j B hne hB => by
      rw [getH_new, if_neg (Ne.symm hne)] at hB
      obtain ⟨u, hu⟩ := hH.some_of hB
      exact ⟨hB, u, hu, fun _ _ _ e => by cases e⟩)
    (fun B u b hB hoB hu hb => by
      rw [upd_same] at hu; injection hu with hu; subst hu
      simp [blockOf] at hb)
    (fun B hB hS hsame => by
      rw [getH_new, if_pos rfl] at hB; injection hB with hB; subst hB
      exact ⟨Nat.le_of_ble_eq_true h0, _, [], upd_same _ _ _, ⟨World.ownsRow_nil w 0 e s, fun b hb => by cases hb⟩, fun i hi => by simp at hi, fun i j hi => by simp at hi⟩)
  refine ⟨_, q1, ?_, fun j hj => upd_ne _ _ (by have := Nat.le_of_ble_eq_true hn0; omega)⟩
  have h2 := hE.mono q2 q3 hext
  refine ⟨h2.size, h2.defers, fun x v hx => ?_⟩
  simp only [getE] at hx
  cases hb : Nat.beq t x with
  | true =>
    rw [hb] at hx
    simp only [cond_true, Option.some.injEq] at hx
    subst hx
    have := Nat.eq_of_beq_eq_true hb
    subst this
    exact .own (by rw [hv]; exact upd_same _ _ _)
  | false =>
    rw [hb] at hx
    exact h2.slot x v hx

/-- what is the call's own is data from now on -/
theorem less_fro {id e s : Nat} {l : List (List V)} {st : St} (hh : getH st.heap id = some (.row e s l)) : Less P n0 st { st with heap := (id, some (.fro l)) :: st.heap } := fun F base w0 ρ a w hH hE => by
  obtain ⟨h0, r, xs, h1, ⟨h2, h2b⟩, h3, h4⟩ := hH.blk _ _ hh
  have hS : ∀ b, Stab F ρ st.heap b → Stab F ρ ((id, some (.fro l)) :: st.heap) b := fun b h => ⟨h.1, fun j B u hB ho hu => by
    rw [getH_new] at hB
    split at hB
    · injection hB with hB; subst hB; cases ho
    · exact h.2 j B u hB ho hu⟩
  have hSo : ∀ b, blockOf r = some b → Stab F ρ ((id, some (.fro l)) :: st.heap) b := fun b hb => by
    have hob := hH.owned hh rfl h1 hb
    refine ⟨hH.hF b hob.1, fun j B u hB ho hu hub => ?_⟩
    rw [getH_new] at hB
    split at hB
    · injection hB with hB; subst hB; cases ho
    · rename_i hji
      exact hji (hH.inj id j _ B r u b hh hB rfl ho h1 hu hb hub)
  refine ⟨ρ, ⟨⟨hH.below, hH.hbase, hH.sup, fun i j B B' u u' b hB hB' ho ho' hu hu' hb hb' => ?_, fun j B hB => ?_⟩, hH.hF⟩, hE.mono (Same.refl _ _) (fun b h _ => hS b h) (fun _ _ h => h), fun _ _ => rfl⟩
  · rw [getH_new] at hB hB'
    split at hB
    · injection hB with hB; subst hB; cases ho
    · split at hB'
      · injection hB' with hB'; subst hB'; cases ho'
      · exact hH.inj i j B B' u u' b hB hB' ho ho' hu hu' hb hb'
  · rw [getH_new] at hB
    split at hB
    · rename_i e; subst e
      injection hB with hB; subst hB
      refine ⟨r, h1, row_ro h0 h2 h3 h4 (fun b h _ => hS b h) hSo, fun a n c hr => ?_⟩
      rcases h2.2 with ⟨rfl, _⟩ | ⟨g, cap, cur, rfl, _⟩
      · cases hr
      · injection hr with hr; injection hr with hr; rw [← hr]
    · exact (hH.blk j B hB).mono (Same.refl _ _) (fun b h _ => hS b h) (fun _ _ h => h) (fun _ _ _ _ _ _ => rfl)
end
end Go.Proofs.Ytnbbnedpjfanoaa
