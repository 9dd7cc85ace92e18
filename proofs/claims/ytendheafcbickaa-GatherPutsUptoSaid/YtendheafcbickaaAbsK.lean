/- A VALUE CALCULUS OVER THE MODEL: rows whose cells may be the call's own (rox). Plain lemmas, over any program. -/
import Derived.Test.YtendheafcbickaaGA
set_option linter.unusedSimpArgs false
set_option linter.unusedVariables false
namespace Go.Proofs.Ytendheafcbickaa
open Go.RowKit
section
variable {P : Program} {o : Oper} {st : St} {n0 : Nat} {G : List Nat}

/-! ### What stands in such a row -/
theorem q_len_rox {x : Operand} {t t' : TypeId} {id : Nat} {e : TypeId} {s : Nat} {l : List (List V)} (ho : o.op = .call { callee := .builtin .len, args := #[x], argTypes := #[t] }) (hx : opE st.env x = some (.own id)) (hh : getH st.heap id = some (.rox e s l)) (ht : P.underlying t = some (.slice t')) : QStep P G o st (.lit (.int .i64 l.length)) :=
  q_builtin1 ho fun F base w0 ρ a w hH hE => ⟨_, .pure (.lit _ rfl), fun cs w' => by
    have h := own_inv (opE_sound hE hx)
    obtain ⟨_, v, xs, h1, ⟨h2, _⟩, _⟩ := hH.blk _ _ hh
    rw [h] at h1; injection h1 with h1
    rcases h2.2 with ⟨hv, h0⟩ | ⟨g, cap, cur, hv, _⟩
    · rw [h1, hv, h0]; exact run_builtin_len ht _ _ _ _ _ _
    · rw [h1, hv]; exact run_builtin_len ht _ _ _ _ _ _⟩
theorem q_index_rox {T e s n id e' : Nat} {x y : Operand} {l : List (List V)} {k : IntKind} {m : Int} (ho : o.op = .indexAddr T x y) (hx : opE st.env x = some (.own id)) (hh : getH st.heap id = some (.rox e' s l)) (hy : opE st.env y = some (.lit (.int k m)))
    (hm : m = (n : Int)) (hn : n < l.length) (hT : P.underlying T = some (.slice e)) (hs : sizeT P e = some s) : QStep P G o st (.ptr id n s 0) :=
  q_of_run fun F base w0 ρ a w hH hE => by
    subst hm
    have h := own_inv (opE_sound hE hx)
    obtain ⟨_, v, xs, h1, ⟨h2, _⟩, _⟩ := hH.blk _ _ hh
    rw [h] at h1; injection h1 with h1
    rcases h2.2 with ⟨_, h0⟩ | ⟨g, cap, cur, hv, _⟩
    · omega
    · rw [hv] at h1
      refine ⟨.pointer (some ⟨g, n * s + 0, none⟩), .ptr (b := g) h (by rw [h1]; rfl), fun w' => ?_⟩
      unfold execOp; rw [ho]; simp only []; rw [h1, lit_inv (opE_sound hE hy)]
      simp only [Sem.run_bind, run_index_slice hT hs _ _ _ _ _ _ hn, Nat.zero_add, Nat.add_zero]; rfl
theorem reads_rox {id i j e s : Nat} {l : List (List V)} {cs : List V} (hh : getH st.heap id = some (.rox e s l)) (hi : i < l.length) (hg : notIn id G = true) (he : eAt l i = cs) : Reads G st (.ptr id i s j) (cs.drop j) :=
  fun F base w0 ρ w u hH hG hv => by
    subst he
    obtain ⟨r, b, h1, h2, h3⟩ := ptr_inv hv
    obtain ⟨e0, v, xs, e1, ⟨e2, _⟩, e3, e4⟩ := hH.blk _ _ hh
    rw [h1] at e1; injection e1 with e1; subst e1
    have hlen : (eAt l i).length = s := e3 i hi
    refine ⟨b, i * s + j, fun k => xs.getD (i * s + j + k) undef, h3, fun k hk => ?_, fun w' hw' k hk => ?_⟩
    · rw [cAt_drop]; simp only [List.length_drop] at hk
      obtain ⟨u, hu, hp, _⟩ := e4 i (j + k) hi (by omega)
      have : xs.getD (i * s + j + k) undef = u := by rw [List.getD_eq_getElem?_getD, Nat.add_assoc, hu]; rfl
      show VRel _ _ _ _ (xs.getD (i * s + j + k) undef)
      rw [this]; exact hp
    · simp only [List.length_drop] at hk
      obtain ⟨u, hu, hp, _⟩ := e4 i (j + k) hi (by omega)
      have e : xs.getD (i * s + j + k) undef = u := by rw [List.getD_eq_getElem?_getD, Nat.add_assoc, hu]; rfl
      show _ = some (xs.getD (i * s + j + k) undef)
      rw [e]
      refine hw'.cell (own_notGB hH hG hg hh rfl h1 h2) ?_
      rw [Nat.add_assoc]
      exact row_cell e2 h2 hu

theorem g_store_rox {T : TypeId} {x y : Operand} {id i j e s : Nat} {l : List (List V)} {vs : List V} {v : V} (ho : o.op = .store T x y) (hd : o.dst = none) (hx : opE st.env x = some (.ptr id i s j)) (hh : getH st.heap id = some (.rox e s l)) (hi : i < l.length) (hy : opE st.env y = some v)
    (hf : flat v = some vs) (hT : sizeT P T = some vs.length) (hl : Nat.ble (j + vs.length) s = true) :
    GStep P n0 o st { st with heap := (id, some (.rox e s (l.set i (setAt j vs (eAt l i))))) :: st.heap } := fun F base w0 ρ a w hH hE => by
  have hl := Nat.le_of_ble_eq_true hl
  obtain ⟨r, b, h1, h2, h3⟩ := ptr_inv (opE_sound hE hx)
  obtain ⟨hs0, v', xs, e1, ⟨e2, e2b⟩, e3, e4⟩ := hH.blk _ _ hh
  rw [h1] at e1; injection e1 with e1; subst e1
  obtain ⟨hxl, hcase⟩ := e2
  rcases hcase with ⟨rfl, _⟩ | ⟨g, cap, cur, rfl, hbg, hg, hnc, hcm, hcs, htake⟩
  · simp [blockOf] at h2
  simp only [blockOf, Option.some.injEq] at h2
  subst h2
  obtain ⟨l1, l2⟩ := flat_spec (opE_sound hE hy) hf (fun id x h => (hH.sup id x h).2)
  have hone : ∀ v ∈ (a.eval y).cells.toList, v.oneCell' = true := fun v hv => by
    obtain ⟨i, hi, rfl⟩ := List.getElem_of_mem hv
    simp only [Array.length_toList] at hi
    have := (l2 i (by omega)).2
    simpa [hi] using this
  have hlen : (eAt l i).length = s := e3 i hi
  have hmul : (i + 1) * s ≤ l.length * s := Nat.mul_le_mul_right s hi
  have hmul2 : l.length * s ≤ cap * s := Nat.mul_le_mul_right s hnc
  have hmul3 : (i + 1) * s = i * s + s := Nat.succ_mul i s
  have hrun := run_store (P := P) (T := T) (n := vs.length) (g := g) (off := i * s + j) hT l1 hg (by omega) hone
  have hlt := (Array.getElem?_eq_some_iff.1 hg).1
  have hns : ¬ Stab F ρ st.heap g := fun hs => hs.2 id _ _ hh rfl h1 rfl
  refine wp_of_skip (w' := w.setRow g (cur.toList.take (i * s + j) ++ (a.eval y).cells.toList ++ cur.toList.drop (i * s + j + vs.length)).toArray) ?_ ?_
  · unfold execOp; rw [ho]
    simp only [h3, Sem.run_bind, hrun]; rfl
  · rw [hd]
    have hsz := splice_size (us := cur) (vs := (a.eval y).cells) (off := i * s + j) (by omega)
    have hgt := fun k => splice_get (us := cur) (vs := (a.eval y).cells) (off := i * s + j) (j := k) (by omega)
    rw [l1] at hsz hgt
    generalize (cur.toList.take (i * s + j) ++ (a.eval y).cells.toList ++ cur.toList.drop (i * s + j + vs.length)).toArray = N at hsz hgt ⊢
    obtain ⟨q1, q2, q3⟩ := hH.step (ρ' := ρ) (heap' := (id, some (.rox e s (l.set i (setAt j vs (eAt l i))))) :: st.heap) (next' := st.next) id (some g) (setRow_grown w g N)
      (fun k hk => by injection hk with hk; subst hk; exact ⟨e2b _ rfl, hns⟩) (fun _ _ h => h) (fun id u h => hH.sup id u h)
      (fun i B hne hB => by
        rw [getH_new, if_neg (Ne.symm hne)] at hB
        refine ⟨hB, ?_⟩
        obtain ⟨u, hu⟩ := hH.some_of hB
        exact ⟨u, hu, fun ho b hb e => by injection e with e; subst e; exact hne (hH.inj i id B _ u _ g hB hh ho rfl hu h1 hb rfl)⟩)
      (fun B u b hB ho hu hb => by
        rw [h1] at hu; injection hu with hu; subst hu
        simp only [blockOf, Option.some.injEq] at hb; subst hb
        refine .inr ⟨hns, fun i B' u' hne hB' ho' hu' hb' => ?_⟩
        rw [getH_new, if_neg (Ne.symm hne)] at hB'
        exact hne (hH.inj i id B' _ u' _ g hB' hh ho' rfl hu' h1 hb' rfl))
      (fun B hB hS hsame => by
        rw [getH_new, if_pos rfl] at hB; injection hB with hB; subst hB
        have hlset : (l.set i (setAt j vs (eAt l i))).length = l.length := by simp
        have heAt : ∀ k, eAt (l.set i (setAt j vs (eAt l i))) k = if i = k then setAt j vs (eAt l i) else eAt l k := fun k => by
          unfold eAt
          rw [List.getD_eq_getElem?_getD, List.getD_eq_getElem?_getD, List.getD_eq_getElem?_getD, List.getElem?_set]
          by_cases hik : i = k
          · subst hik; simp [hi]
          · simp [hik]
        refine ⟨hs0, _, N.toList.take (l.length * s), h1, ⟨⟨by rw [hlset]; simp; omega, .inr ⟨g, cap, N, by rw [hlset], hbg, setRow_heap w g cur N e _ hg, by rw [hlset]; exact hnc, hcm, by omega, by rw [hlset]⟩⟩, e2b⟩, fun k hk => ?_, fun k c hk hc => ?_⟩
        · rw [heAt]; rw [hlset] at hk
          by_cases hik : i = k
          · rw [if_pos hik, length_setAt]; exact hlen
          · rw [if_neg hik]; exact e3 k hk
        · rw [hlset] at hk
          have hk1 : (k + 1) * s ≤ l.length * s := Nat.mul_le_mul_right s hk
          have hk3 : (k + 1) * s = k * s + s := Nat.succ_mul k s
          have hin : (N.toList.take (l.length * s))[k * s + c]? = some (N.getD (k * s + c) undef) := by
            rw [List.getElem?_take, if_pos (by omega)]
            simp [show k * s + c < N.size by omega]
          refine ⟨_, hin, ?_⟩
          rw [heAt, hgt (k * s + c) (by omega)]
          obtain ⟨u0, hu0, hp0, ho0⟩ := e4 k c hk hc
          have hu0' : cur.getD (k * s + c) undef = u0 := by
            rw [← htake, List.getElem?_take, if_pos (by omega)] at hu0
            simp only [Array.getElem?_toList] at hu0
            rw [Array.getD_eq_getD_getElem?, hu0]; rfl
          by_cases hik : i = k
          · subst hik
            rw [if_pos rfl, cAt_setAt _ _ _ (by omega)]
            by_cases hjc : j ≤ c ∧ c < j + vs.length
            · rw [if_pos hjc, if_pos (by omega), show i * s + c - (i * s + j) = c - j by omega]
              have hq := l2 (c - j) (by omega)
              exact ⟨hq.1.mono hsame hS (fun _ _ h => h), hq.2⟩
            · rw [if_neg hjc, if_neg (by omega), hu0']
              exact ⟨hp0.mono hsame hS (fun _ _ h => h), ho0⟩
          · rw [if_neg hik]
            have hdis : ¬ (i * s + j ≤ k * s + c ∧ k * s + c < i * s + j + vs.length) := by
              rintro ⟨g1, g2⟩
              rcases Nat.lt_or_gt_of_ne hik with hh | hh
              · have : (i + 1) * s ≤ k * s := Nat.mul_le_mul_right s hh
                omega
              · have : (k + 1) * s ≤ i * s := Nat.mul_le_mul_right s hh
                omega
            rw [if_neg hdis, hu0']
            exact ⟨hp0.mono hsame hS (fun _ _ h => h), ho0⟩)
    exact ⟨ρ, q1, hE.mono q2 q3 (fun _ _ h => h), fun _ _ h => h, fun _ _ => rfl⟩

/-- a slice literal of the call's own, with what is the call's own in it -/
theorem a_litx {k t e len d : Nat} {parts : Array (Nat × Operand)} {ps : List (Nat × List V)} {l : List (List V)} (ho : o.op = .buildSlice t len parts) (hd : o.dst = some d) (hdn : Nat.blt d st.nt = true) (ht : P.underlying t = some (.slice e)) (hp : partsE st.env parts.toList = some ps) (hl : sliceV P e len ps = some l) (hlen : Nat.blt 0 len = true) (hsm : Nat.ble (len * (sizeT P e).getD 0) 16777216 = true) :
    GAt P k o st (st.newAt k d (.own k) (.rox e ((sizeT P e).getD 0) l)) := fun F base w0 ρ a w hH hE hnn hk => by
  obtain ⟨s, z, cs, hs, hz, hzl, h0, hf, rfl⟩ := sliceV_spec hl
  rw [hs] at hsm
  obtain ⟨us, hrun, hc, hcl⟩ := build_slice hH hE ht hs hz hzl h0 (Nat.le_of_ble_eq_true hlen) (Nat.le_of_ble_eq_true hsm) hp hf
  refine wp_of_value (u := .slice (some ⟨w.heap.size, 0, none⟩) len len) (w' := w.alloc (.cells us e)) ?_ ?_
  · unfold execOp; rw [ho]
    simp only [Sem.run_bind, hrun]; rfl
  · rw [hd]
    have hext : ∀ id x, ρ id = some x → upd ρ k (.slice (some ⟨w.heap.size, 0, none⟩) len len) id = some x := fun id x h => by rw [upd_ne _ _ (fun e => by rw [e, hnn] at h; cases h)]; exact h
    have hr := rowsV_get s len cs hcl
    have hlr := rowsV_length s len cs
    have h24 : len ≤ 16777216 := Nat.le_trans (Nat.le_mul_of_pos_right len h0) (Nat.le_of_ble_eq_true hsm)
    refine next_new hH hE hnn hk (below_alloc _ _) (fun _ b hb => by simp only [blockOf, Option.some.injEq] at hb; omega) (Nat.le_of_ble_eq_true hdn) rfl (fun S hS _ hsame => ?_) (fun S => .own (upd_same _ _ _))
    rw [hs]
    refine ⟨h0, _, us.toList, upd_same _ _ _, ⟨⟨by rw [hlr, Array.length_toList, hc.1, hcl]; rfl, .inr ⟨w.heap.size, len, us, by rw [hlr], Nat.zero_le _, alloc_cells _ _ _, by rw [hlr]; exact Nat.le_refl _, by unfold maxLen; omega, by rw [hc.1, hcl]; rfl, ?_⟩⟩, fun b hb => ?_⟩, fun i hi => (hr i (by rw [hlr] at hi; exact hi)).1, fun i j hi hj => ?_⟩
    · rw [hlr, List.take_of_length_le]
      rw [Array.length_toList, hc.1, hcl]; exact Nat.le_refl _
    · simp only [blockOf, Option.some.injEq] at hb; exact hH.hbase b (by omega)
    · have hi2 := hi
      rw [hlr] at hi
      have h1 : (i + 1) * s ≤ len * s := Nat.mul_le_mul_right s hi
      have h2 : (i + 1) * s = i * s + s := Nat.succ_mul i s
      have hj : j < s := hj
      have hcc := hc.2 (i * s + j) (by rw [hcl]; omega)
      refine ⟨us.getD (i * s + j) undef, ?_, ?_, hcc.2⟩
      · show us.toList[i * s + j]? = _
        rw [Array.getElem?_toList, Array.getElem?_eq_getElem (by rw [hc.1, hcl]; omega), Array.getD_eq_getD_getElem?, Array.getElem?_eq_getElem (by rw [hc.1, hcl]; omega)]; rfl
      · rw [(hr i hi).2 j hj]
        exact hcc.1.mono hsame hS hext

/-- an append of one such row to another -/
theorem a_appx {k : Nat} {x y : Operand} {t e s by_ id id2 d : Nat} {l m : List (List V)} (ho : o.op = .call { callee := .builtin .append, args := #[x, y], argTypes := #[t, t] }) (hd : o.dst = some d) (hdn : Nat.blt d st.nt = true)
    (hx : opE st.env x = some (.own id)) (hh : getH st.heap id = some (.rox e s l)) (hy : opE st.env y = some (.own id2)) (hh2 : getH st.heap id2 = some (.rox e s m))
    (ht : P.underlying t = some (.slice e)) (hs : sizeT P e = some s) (hb : bytesT P e = some by_) (hz : ∃ z, zeroT P e = some z ∧ z.length = s)
    (hby : (l.length + m.length) * by_ ≤ 140737488355328) (h63 : l.length + m.length ≤ 9223372036854775807) :
    GAt P k o st { env := (d, .own k) :: st.env, heap := (k, some (.rox e s (l ++ m))) :: (id, none) :: st.heap, next := st.next, nt := st.nt } := fun F base w0 ρ a w hH hE hnn hk => by
  obtain ⟨i, z, hi, hz1, hsz, hbb, hzs⟩ := elem_info hs hb hz
  have hxv := own_inv (opE_sound hE hx)
  have hyv := own_inv (opE_sound hE hy)
  obtain ⟨h0, r, xs, h1, ⟨h2, h2b⟩, h3, h4⟩ := hH.blk _ _ hh
  rw [hxv] at h1; injection h1 with h1; subst h1
  obtain ⟨_, r2, news, k1, ⟨k2, _⟩, hm, k4⟩ := hH.blk _ _ hh2
  rw [hyv] at k1; injection k1 with k1; subst k1
  have hnl : news.length = m.length * s := k2.1
  obtain ⟨A, c, hu, hA⟩ : ∃ A c, a.eval y = .slice A m.length c ∧ (m.length = 0 ∨ ∃ a, A = some a ∧ ∀ j u, news[j]? = some u → w.cell? (a.add j) = some u) := by
    rcases k2.2 with ⟨hq, hn⟩ | ⟨g, cap, cur, hq, _⟩
    · exact ⟨none, 0, by rw [hq, hn], .inl hn⟩
    · exact ⟨_, _, hq, .inr ⟨_, rfl, k2.cells (by rw [hq]; rfl)⟩⟩
  have hone : ∀ u ∈ news, u.oneCell' = true := by
    intro u hu
    obtain ⟨q, hq, rfl⟩ := List.getElem_of_mem hu
    have hd' : q / s < m.length := Nat.div_lt_of_lt_mul (by rw [Nat.mul_comm]; omega)
    obtain ⟨u, hu2, _, hp⟩ := k4 (q / s) (q % s) hd' (Nat.mod_lt _ h0)
    have hdm : q / s * s + q % s = q := by rw [Nat.mul_comm]; exact Nat.div_add_mod q s
    rw [hdm, List.getElem?_eq_getElem hq] at hu2
    injection hu2 with hu2
    rw [hu2]
    exact hp
  obtain ⟨v', w', hr, hown, hg, hblk⟩ := app_run (P := P) (ty := o.type) ht hi hz1 hsz hbb hzs h0 h2 (c := c) hnl hA hone (by unfold maxLen; omega) hby (Nat.zero_le _)
  have hid : id ≠ k := fun e => by rw [e, hnn] at hxv; cases hxv
  have hext : ∀ id x, ρ id = some x → upd ρ k v' id = some x := fun id x h => by rw [upd_ne _ _ (fun e => by rw [e, hnn] at h; cases h)]; exact h
  have hob : ∀ b, (a.eval x).ownBlock = some b → blockOf (a.eval x) = some b := fun b hb => by
    cases hav : a.eval x <;> rw [hav] at hb <;> simp [Value.ownBlock] at hb
    rename_i a0 _ _
    cases a0 <;> simp_all [Value.ownBlock, blockOf]
  have hv'1 : v'.oneCell' = true := by rcases hown.2 with ⟨rfl, _⟩ | ⟨_, _, _, rfl, _⟩ <;> rfl
  refine wp_of_value (u := v') (w' := w') ?_ ?_
  · unfold execOp; rw [ho]
    simp only [resolve, invoke, builtin, Sem.run_bind, Sem.run_pure, Result.andThen_ok, List.map_toArray, List.map_cons, List.map_nil, hu, hr]
  · rw [hd]
    obtain ⟨q1, q2, q3⟩ := hH.step (ρ' := upd ρ k v') (heap' := (k, some (.rox e s (l ++ m))) :: (id, none) :: st.heap) (next' := st.next) k (a.eval x).ownBlock hg
      (fun kk hk => by
        have hbk := hob kk hk
        exact ⟨(hH.owned hh rfl hxv hbk).1, fun hst => hst.2 id _ _ hh rfl hxv hbk⟩) hext
      (fun id x h => by
        by_cases e : id = k
        · rw [e, upd_same] at h; injection h with h; subst h; exact ⟨by omega, hv'1⟩
        · rw [upd_ne _ _ e] at h; have := hH.sup _ _ h; exact ⟨by omega, this.2⟩)
      (fun j B hne hB => by
        rw [getH_new, if_neg (Ne.symm hne), getH_new] at hB
        split at hB
        · cases hB
        · rename_i hji
          refine ⟨hB, ?_⟩
          obtain ⟨u, hu⟩ := hH.some_of hB
          exact ⟨u, hu, fun ho b hb e => hji (hH.inj id j _ B _ u b hh hB rfl ho hxv hu (hob b e) hb)⟩)
      (fun B u b hB hoB hu hb => by
        rw [upd_same] at hu; injection hu with hu; subst hu
        rcases hblk with hblk | hblk
        · rw [hblk] at hb
          refine .inr ⟨fun hst => hst.2 id _ _ hh rfl hxv hb, fun j B' u' hne hB' ho' hu' hb' => ?_⟩
          rw [getH_new, if_neg (Ne.symm hne), getH_new] at hB'
          split at hB'
          · cases hB'
          · rename_i hji
            rw [upd_ne _ _ hne] at hu'
            exact hji (hH.inj id j _ B' _ u' b hh hB' rfl ho' hxv hu' hb hb')
        · exact .inl (hblk b hb))
      (fun B hB hS hsame => by
        rw [getH_new, if_pos rfl] at hB; injection hB with hB; subst hB
        refine ⟨h0, v', xs ++ news, upd_same _ _ _, ⟨(by rw [List.length_append]; exact hown), fun b hb => hblk.elim (fun hblk => h2b b (by rw [← hblk]; exact hb)) (fun hblk => hH.hbase b (hblk b hb))⟩, fun k hk => ?_, fun k j hk hj => ?_⟩
        · rw [eAt_append]
          split
          · rename_i hkl; exact h3 k hkl
          · rename_i hkl; rw [List.length_append] at hk; exact hm _ (by omega)
        · rw [eAt_append]
          have hxl : xs.length = l.length * s := h2.1
          split
          · rename_i hkl
            obtain ⟨u, g1, g2, g3⟩ := h4 k j hkl hj
            have hlt2 : k * s + j < l.length * s := by
              have h5 : (k + 1) * s ≤ l.length * s := Nat.mul_le_mul_right s hkl
              have h6 : (k + 1) * s = k * s + s := Nat.succ_mul k s
              omega
            exact ⟨u, by rw [List.getElem?_append_left (by omega)]; exact g1, g2.mono hsame hS hext, g3⟩
          · rename_i hkl
            rw [List.length_append] at hk
            obtain ⟨u, g1, g2, g3⟩ := k4 (k - l.length) j (by omega) hj
            have h5 : (k - l.length) * s = k * s - l.length * s := Nat.sub_mul k l.length s
            have h6 : l.length * s ≤ k * s := Nat.mul_le_mul_right s (by omega)
            refine ⟨u, ?_, g2.mono hsame hS hext, g3⟩
            rw [List.getElem?_append_right (by omega), hxl, show k * s + j - l.length * s = (k - l.length) * s + j by omega]
            exact g1)
    exact ⟨upd ρ k v', q1, (hE.mono q2 q3 hext).put (Nat.le_of_ble_eq_true hdn) (.own (upd_same _ _ _)), hext, fun j hj => upd_ne _ _ hj⟩
end

/-! ### Such a row and a plain one -/
section
variable {P : Program} {n0 : Nat}
theorem less_at {st : St} {id : Nat} {B B' : Blk} (hh : getH st.heap id = some B) (ho : B.owns = true) (ho' : B'.owns = true) (h : ∀ F base w0 ρ w, HRel F base ρ st.heap st.next w0 w → BRel base ρ (Stab F ρ st.heap) w id B → BRel base ρ (Stab F ρ st.heap) w id B') : Less P n0 st { st with heap := (id, some B') :: st.heap } :=
  fun F base w0 ρ a w hH hE => by
    have hS : Stab F ρ ((id, some B') :: st.heap) = Stab F ρ st.heap := funext fun b => propext ⟨fun h => ⟨h.1, fun j C u hC hoC hu => by
        by_cases e : id = j
        · subst e; rw [hh] at hC; injection hC with hC; subst hC; exact h.2 id B' u (by rw [getH_new, if_pos rfl]) ho' hu
        · exact h.2 j C u (by rw [getH_new, if_neg e]; exact hC) hoC hu⟩, fun h => ⟨h.1, fun j C u hC hoC hu => by
        rw [getH_new] at hC
        split at hC
        · rename_i e; subst e; exact h.2 id B u hh ho hu
        · exact h.2 j C u hC hoC hu⟩⟩
    refine ⟨ρ, ⟨⟨hH.below, hH.hbase, hH.sup, fun i j C C' u u' b hC hC' hoC hoC' hu hu' hb hb' => ?_, fun j C hC => ?_⟩, hH.hF⟩, ?_, fun _ _ => rfl⟩
    · rw [getH_new] at hC hC'
      have g : ∃ C, getH st.heap i = some C ∧ C.owns = true := by
        split at hC
        · rename_i e; subst e; exact ⟨B, hh, ho⟩
        · exact ⟨C, hC, hoC⟩
      have g' : ∃ C, getH st.heap j = some C ∧ C.owns = true := by
        split at hC'
        · rename_i e; subst e; exact ⟨B, hh, ho⟩
        · exact ⟨C', hC', hoC'⟩
      obtain ⟨D, d1, d2⟩ := g
      obtain ⟨D', d1', d2'⟩ := g'
      exact hH.inj i j D D' u u' b d1 d1' d2 d2' hu hu' hb hb'
    · rw [hS]
      rw [getH_new] at hC
      split at hC
      · rename_i e; subst e; injection hC with hC; subst hC
        exact h F base w0 ρ w hH (hH.blk _ _ hh)
      · exact hH.blk j C hC
    · exact ⟨hE.size, hE.defers, fun t v hv => by show VRel ρ (Stab F ρ ((id, some B') :: st.heap)) w v _; rw [hS]; exact hE.slot t v hv⟩
theorem less_rox {st : St} {id e s : Nat} {l : List (List V)} (hh : getH st.heap id = some (.row e s l)) : Less P n0 st { st with heap := (id, some (.rox e s l)) :: st.heap } :=
  less_at hh rfl rfl fun F base w0 ρ w _ h => by
    obtain ⟨h0, v, xs, h1, h2, h3, h4⟩ := h
    exact ⟨h0, v, xs, h1, h2, h3, fun i j hi hj => by obtain ⟨u, q1, q2, q3⟩ := h4 i j hi hj; exact ⟨u, q1, .pure q2, q3⟩⟩
theorem less_xrow {st : St} {id e s : Nat} {l : List (List V)} (hh : getH st.heap id = some (.rox e s l)) (hp : ∀ i j, i < l.length → j < s → pureV (cAt (eAt l i) j) = true) : Less P n0 st { st with heap := (id, some (.row e s l)) :: st.heap } :=
  less_at hh rfl rfl fun F base w0 ρ w _ h => by
    obtain ⟨h0, v, xs, h1, h2, h3, h4⟩ := h
    exact ⟨h0, v, xs, h1, h2, h3, fun i j hi hj => by obtain ⟨u, q1, q2, q3⟩ := h4 i j hi hj; exact ⟨u, q1, pure_rel q2 (hp i j hi hj), q3⟩⟩
/-- a cell with something of the call's own that is data by now -/
def roIn (heap : List (Nat × Option Blk)) (v v' : V) : Prop := v' = v ∨ ∃ m l, v = .own m ∧ getH heap m = some (.fro l) ∧ v' = .ro l
theorem less_xro {st : St} {id e s : Nat} {l l' : List (List V)} (hh : getH st.heap id = some (.rox e s l)) (hl : l'.length = l.length) (hs : ∀ i, i < l.length → (eAt l' i).length = (eAt l i).length)
    (hp : ∀ i j, i < l.length → j < s → roIn st.heap (cAt (eAt l i) j) (cAt (eAt l' i) j)) : Less P n0 st { st with heap := (id, some (.rox e s l')) :: st.heap } :=
  less_at hh rfl rfl fun F base w0 ρ w hH h => by
    obtain ⟨h0, v, xs, h1, h2, h3, h4⟩ := h
    refine ⟨h0, v, xs, h1, by rw [hl]; exact h2, fun i hi => by rw [hs i (by omega)]; exact h3 i (by omega), fun i j hi hj => ?_⟩
    obtain ⟨u, q1, q2, q3⟩ := h4 i j (by omega) hj
    refine ⟨u, q1, ?_, q3⟩
    rcases hp i j (by omega) hj with e | ⟨m, lm, e1, e2, e3⟩
    · rw [e]; exact q2
    · rw [e3]
      rw [e1] at q2
      obtain ⟨v2, g1, g2, _⟩ := hH.blk _ _ e2
      rw [own_inv q2] at g1; injection g1 with g1; subst g1
      exact .pure g2
theorem eAt_mid {A B : List (List V)} {c : List V} (i : Nat) : eAt (A ++ c :: B) i = if i < A.length then eAt A i else if i = A.length then c else eAt B (i - A.length - 1) := by
  rw [eAt_append]
  split
  · rfl
  · by_cases h : i = A.length
    · rw [if_pos h, h, Nat.sub_self]; rfl
    · rw [if_neg h]
      obtain ⟨j, hj⟩ : ∃ j, i - A.length = j + 1 := ⟨i - A.length - 1, by omega⟩
      rw [hj, Nat.add_sub_cancel]; rfl
/-- one such cell -/
theorem less_xone {st : St} {id e s m : Nat} {a : V} {l l' A B lm : List (List V)} (hh : getH st.heap id = some (.rox e s l)) (hm : getH st.heap m = some (.fro lm)) (hl : l = A ++ [a, .own m] :: B) (hl' : l' = A ++ [a, .ro lm] :: B) : Less P n0 st { st with heap := (id, some (.rox e s l')) :: st.heap } := by
  subst hl hl'
  refine less_xro hh (by simp) (fun i _ => ?_) (fun i j _ _ => ?_)
  · rw [eAt_mid, eAt_mid]
    split
    · rfl
    · split <;> rfl
  · rw [eAt_mid, eAt_mid]
    split
    · exact .inl rfl
    · split
      · match j with
        | 0 => exact .inl rfl
        | 1 => exact .inr ⟨m, lm, rfl, hm, rfl⟩
        | n + 2 => exact .inl rfl
      · exact .inl rfl
/-- plain cells -/
theorem less_xall {st : St} {id e s : Nat} {α : Type} [Inhabited α] {f : α → List V} {l : List α} (hh : getH st.heap id = some (.rox e s (l.map f))) (hf : ∀ x, (f x).all pureV = true ∧ (f x).length = s) : Less P n0 st { st with heap := (id, some (.row e s (l.map f))) :: st.heap } :=
  less_xrow hh (fun i j hi hj => by
    rw [List.length_map] at hi
    rw [eAt_map f hi]
    have h := (hf (l.getD i default)).1
    have hj : j < (f (l.getD i default)).length := by rw [(hf _).2]; exact hj
    generalize f (l.getD i default) = cs at *
    rw [List.all_eq_true] at h
    refine h _ ?_
    unfold cAt; rw [List.getD_eq_getElem?_getD, List.getElem?_eq_getElem hj]; exact List.getElem_mem hj)
end

/-! ### Other numbers -/
def svX (inv : Nat → Option Nat) (heap : List (Nat × Option Blk)) (B B' : Blk) : Prop :=
  svB inv heap B = some B' ∨ ∃ e s l l', B = .rox e s l ∧ B' = .rox e s l' ∧ l'.length = l.length ∧ ∀ i, i < l.length → sv.svL inv heap (eAt l i) = some (eAt l' i)
theorem svX_owns {inv : Nat → Option Nat} {heap : List (Nat × Option Blk)} {B B' : Blk} (h : svX inv heap B B') (ho : B'.owns = true) : B.owns = true := by
  rcases h with h | ⟨e, s, l, l', rfl, rfl, _⟩
  · cases B with
    | box t cs => rfl
    | row => rfl
    | fro l => simp only [svB, Option.some.injEq] at h; subst h; cases ho
    | map q es => rfl
    | obj o => rfl
    | brow be bl => rfl
    | rox e s l => rfl
    | fmap q es => simp only [svB, Option.some.injEq] at h; subst h; cases ho
    | iter left cur => rfl
  · rfl
section
variable {P : Program} {n0 : Nat}
theorem stab_renx {F : Nat → Prop} {ρ : Nat → Option Value} {heap heap' : List (Nat × Option Blk)} {inv : Nat → Option Nat} {mp : Nat → Nat}
    (hh : ∀ id B', getH heap' id = some B' → inv (mp id) = some id ∧ ∃ B, getH heap (mp id) = some B ∧ svX inv heap B B') {b : Nat} (h : Stab F ρ heap b) : Stab F (renρ ρ inv mp) heap' b := by
  refine ⟨h.1, fun id B' u hB ho hu => ?_⟩
  obtain ⟨_, B, h2, h3⟩ := hh id B' hB
  exact h.2 (mp id) B u h2 (svX_owns h3 ho) (renρ_some hu).2
theorem sv_specx {F base : Nat → Prop} {ρ : Nat → Option Value} {heap heap' : List (Nat × Option Blk)} {next k1 : Nat} {w0 w : World} {inv : Nat → Option Nat} {mp : Nat → Nat} (hr : Ren n0 k1 inv mp) (hH : HRel F base ρ heap next w0 w)
    (hh : ∀ id B', getH heap' id = some B' → inv (mp id) = some id ∧ ∃ B, getH heap (mp id) = some B ∧ svX inv heap B B') {v : V} {u : Value} (h : VRel ρ (Stab F ρ heap) w v u) : ∀ {v'}, sv inv heap v = some v' → VRel (renρ ρ inv mp) (Stab F (renρ ρ inv mp) heap') w v' u := by
  have hS : ∀ b, Stab F ρ heap b → b < w.heap.size → Stab F (renρ ρ inv mp) heap' b := fun b h _ => stab_renx hh h
  induction h with
  | @pure v u h =>
    intro v' hv
    have hp := h.mono (Same.refl _ _) hS
    cases h with
    | lit => simp only [sv, Option.some.injEq] at hv; subst hv; exact .pure hp
    | ro => simp only [sv, Option.some.injEq] at hv; subst hv; exact .pure hp
  | @own id u h =>
    intro v' hv
    simp only [sv] at hv
    split at hv
    · rename_i id' hi
      injection hv with hv; subst hv
      exact .own (by rw [renρ_of hr hi]; exact h)
    · rename_i hi
      split at hv
      · rename_i e s l hhd
        injection hv with hv; subst hv
        obtain ⟨h0, v, xs, h1, ⟨h2, _⟩, h3, h4⟩ := hH.blk _ _ hhd
        rw [h] at h1; injection h1 with h1; subst h1
        refine .pure (row_ro h0 h2 h3 h4 hS (fun b hb => ⟨hH.hF b (hH.owned hhd rfl h hb).1, fun id' B' u' hB' ho' hu' hbb => ?_⟩))
        obtain ⟨g1, B, g2, g3⟩ := hh id' B' hB'
        obtain ⟨g4, g5⟩ := renρ_some hu'
        have := hH.inj _ _ _ _ _ _ b g2 hhd (svX_owns g3 ho') rfl g5 h hbb hb
        rw [this, hi] at g1; cases g1
      · rename_i l hhd
        injection hv with hv; subst hv
        obtain ⟨v, h1, h2, _⟩ := hH.blk _ _ hhd
        rw [h] at h1; injection h1 with h1; subst h1
        exact .pure (h2.mono (Same.refl _ _) hS)
      · cases hv
  | @ptr id i s j b u h hb =>
    intro v' hv
    simp only [sv] at hv
    split at hv
    · rename_i id' hi
      injection hv with hv; subst hv
      exact .ptr (by rw [renρ_of hr hi]; exact h) hb
    · cases hv
  | rp us hSb hc hrl =>
    intro v' hv
    simp only [sv, Option.some.injEq] at hv; subst hv
    exact .rp us (fun h => hS _ (hSb h) (cell_lt (hc 0 h))) hc (fun j hj => (hrl j hj).mono (Same.refl _ _) hS)
  | agg hn h ih =>
    intro v' hv
    simp only [sv] at hv
    split at hv
    · rename_i cs' hcs
      injection hv with hv; subst hv
      obtain ⟨e1, e2⟩ := svL_spec hcs
      exact .agg (by rw [e1]; exact hn) (fun j hj => ih j (by omega) (e2 j (by omega)))
    · cases hv
  | tup hn h ih =>
    intro v' hv
    simp only [sv] at hv
    split at hv
    · rename_i cs' hcs
      injection hv with hv; subst hv
      obtain ⟨e1, e2⟩ := svL_spec hcs
      exact .tup (by rw [e1]; exact hn) (fun j hj => ih j (by omega) (e2 j (by omega)))
    · cases hv
  | clo hn h ih =>
    intro v' hv
    simp only [sv] at hv
    split at hv
    · rename_i cs' hcs
      injection hv with hv; subst hv
      obtain ⟨e1, e2⟩ := svL_spec hcs
      exact .clo (by rw [e1]; exact hn) (fun j hj => ih j (by omega) (e2 j (by omega)))
    · cases hv
  | any u => intro v' hv; simp only [sv, Option.some.injEq] at hv; subst hv; exact .any u
  | und => intro v' hv; simp only [sv, Option.some.injEq] at hv; subst hv; exact .und
theorem ren_heapx {F base : Nat → Prop} {ρ : Nat → Option Value} {heap heap' : List (Nat × Option Blk)} {next k1 : Nat} {w0 w : World} {inv : Nat → Option Nat} {mp : Nat → Nat} (hr : Ren n0 k1 inv mp) (hH : HRel F base ρ heap next w0 w)
    (hh : ∀ id B', getH heap' id = some B' → inv (mp id) = some id ∧ ∃ B, getH heap (mp id) = some B ∧ svX inv heap B B') : HRel F base (renρ ρ inv mp) heap' k1 w0 w := by
  have hS : ∀ b, Stab F ρ heap b → b < w.heap.size → Stab F (renρ ρ inv mp) heap' b := fun b h _ => stab_renx hh h
  refine ⟨⟨hH.below, hH.hbase, fun id u hu => ⟨(hr.back (renρ_some hu).1).2, (hH.sup _ u (renρ_some hu).2).2⟩, fun id id' B B' u u' b hB hB' ho ho' hu hu' hb hb' => ?_, fun id B' hB' => ?_⟩, hH.hF⟩
  · obtain ⟨g1, C, g2, g3⟩ := hh id B hB
    obtain ⟨k1, C', k2, k3⟩ := hh id' B' hB'
    have := hH.inj _ _ _ _ _ _ b g2 k2 (svX_owns g3 ho) (svX_owns k3 ho') (renρ_some hu).2 (renρ_some hu').2 hb hb'
    rw [this, k1] at g1; injection g1 with g1; exact g1.symm
  · obtain ⟨g1, B, g2, g3⟩ := hh id B' hB'
    have hbk := hH.blk _ _ g2
    have e : renρ ρ inv mp id = ρ (mp id) := by unfold renρ; rw [if_pos g1]
    rcases g3 with g3 | ⟨ty, s, l, l', rfl, rfl, g4, g5⟩
    · cases B with
      | box t cs =>
        obtain ⟨b, us, q1, q2, q3, q4, q5⟩ := hbk
        simp only [svB] at g3
        split at g3
        · rename_i cs' hcs
          injection g3 with g3; subst g3
          obtain ⟨e1, e2⟩ := svL_spec hcs
          exact ⟨b, us, by rw [e]; exact q1, q2, q3, by omega, fun j hj => ⟨sv_specx hr hH hh (q5 j (by omega)).1 (e2 j (by omega)), (q5 j (by omega)).2⟩⟩
        · cases g3
      | row ty s l =>
        simp only [svB, Option.some.injEq] at g3; subst g3
        obtain ⟨h0, v, xs, q1, q2, q3, q4⟩ := hbk
        exact ⟨h0, v, xs, by rw [e]; exact q1, q2, q3, fun i j hi hj => by
          obtain ⟨u, hu, hp, ho⟩ := q4 i j hi hj
          exact ⟨u, hu, hp.mono (Same.refl _ _) hS, ho⟩⟩
      | fro l =>
        simp only [svB, Option.some.injEq] at g3; subst g3
        obtain ⟨v, q1, q2, q3⟩ := hbk
        exact ⟨v, by rw [e]; exact q1, q2.mono (Same.refl _ _) hS, q3⟩
      | map q es =>
        simp only [svB, Option.some.injEq] at g3; subst g3
        obtain ⟨b, mes, clock, q1, q2⟩ := hbk
        exact ⟨b, mes, clock, by rw [e]; exact q1, q2⟩
      | obj o =>
        simp only [svB, Option.some.injEq] at g3; subst g3
        obtain ⟨b, q1, q2⟩ := hbk
        exact ⟨b, by rw [e]; exact q1, q2⟩
      | brow be bl =>
        simp only [svB, Option.some.injEq] at g3; subst g3
        obtain ⟨b, cap, cur, fz, q1, q2⟩ := hbk
        exact ⟨b, cap, cur, fz, by rw [e]; exact q1, q2⟩
      | rox ty s l => simp only [svB] at g3; cases g3
      | fmap q es =>
        simp only [svB, Option.some.injEq] at g3; subst g3
        obtain ⟨b, mes, clock, q1, q2, q3⟩ := hbk
        exact ⟨b, mes, clock, by rw [e]; exact q1, hS b q2 (Array.getElem?_eq_some_iff.1 q3.1).1, q3⟩
      | iter left cur =>
        simp only [svB, Option.some.injEq] at g3; subst g3
        obtain ⟨r, b, mes, clock, since, seen, c0, q1, q2, q3, q4, q5⟩ := hbk
        exact ⟨r, b, mes, clock, since, seen, c0, by rw [e]; exact q1, q2, q3, hS b q4 (Array.getElem?_eq_some_iff.1 q5.1).1, q5⟩
    · obtain ⟨h0, v, xs, q1, q2, q3, q4⟩ := hbk
      refine ⟨h0, v, xs, by rw [e]; exact q1, by rw [g4]; exact q2, fun i hi => ?_, fun i j hi hj => ?_⟩
      · rw [(svL_spec (g5 i (by omega))).1]; exact q3 i (by omega)
      · obtain ⟨u, hu, hp, ho⟩ := q4 i j (by omega) hj
        exact ⟨u, hu, sv_specx hr hH hh hp ((svL_spec (g5 i (by omega))).2 j (by rw [q3 i (by omega)]; exact hj)), ho⟩
def coverX (L : List (Nat × Nat)) (heap : List (Nat × Option Blk)) : List (Nat × Option Blk) → Prop
  | [] => True
  | (id, none) :: r => coverX L heap r
  | (id, some B') :: r => (invL L (mpL L id) = some id ∧ ∃ B, getH heap (mpL L id) = some B ∧ svX (invL L) heap B B') ∧ coverX L heap r
theorem coverX_spec {L : List (Nat × Nat)} {heap : List (Nat × Option Blk)} : ∀ {e : List (Nat × Option Blk)}, coverX L heap e → ∀ id B', getH e id = some B' → invL L (mpL L id) = some id ∧ ∃ B, getH heap (mpL L id) = some B ∧ svX (invL L) heap B B'
  | [], _, t, v, h => by simp [getH] at h
  | (s, none) :: r, hc, t, v, h => by
    rw [getH_new] at h
    split at h
    · cases h
    · exact coverX_spec (e := r) hc t v h
  | (s, some u) :: r, hc, t, v, h => by
    rw [getH_new] at h
    split at h
    · rename_i e; subst e; injection h with h; subst h; exact hc.1
    · exact coverX_spec (e := r) hc.2 t v h
/-- under other numbers, as far as kept -/
theorem less_renx {st st' : St} (L : List (Nat × Nat)) (hL : okP n0 st'.next L = true) (hc : coverR L st.heap st.env st'.env) (hh : coverX L st.heap st'.heap) (hnt : st'.nt = st.nt) : Less P n0 st st' :=
  fun F base w0 ρ a w hH hE => by
    have hr := okP_ren hL
    have hh := coverX_spec hh
    refine ⟨renρ ρ (invL L) (mpL L), ren_heapx hr hH hh, ⟨by rw [hnt]; exact hE.size, hE.defers, fun t v hv => ?_⟩, fun id hid => renρ_of hr (hr.low hid)⟩
    obtain ⟨u, h1, h2⟩ := coverR_spec hc t v hv
    exact sv_specx hr hH hh (hE.slot t u h1) h2
theorem sv_pure {inv : Nat → Option Nat} {heap : List (Nat × Option Blk)} {v : V} (h : pureV v = true) : sv inv heap v = some v := by
  cases v <;> first | rfl | cases h
theorem svL_pure {inv : Nat → Option Nat} {heap : List (Nat × Option Blk)} : ∀ {cs : List V}, cs.all pureV = true → sv.svL inv heap cs = some cs
  | [], _ => rfl
  | c :: cs, h => by
    simp only [List.all_cons, Bool.and_eq_true] at h
    simp only [sv.svL, sv_pure h.1, svL_pure h.2]
/-- the last element's cells under other numbers -/
theorem svX_snoc {inv : Nat → Option Nat} {heap : List (Nat × Option Blk)} {e s : Nat} {l : List (List V)} {cs cs' : List V} (hl : ∀ x ∈ l, x.all pureV = true) (h : sv.svL inv heap cs = some cs') : svX inv heap (.rox e s (l ++ [cs])) (.rox e s (l ++ [cs'])) := by
  refine .inr ⟨e, s, _, _, rfl, rfl, by simp, fun i hi => ?_⟩
  rw [eAt_append, eAt_append]
  split
  · rename_i hil
    refine svL_pure (hl _ ?_)
    unfold eAt; rw [List.getD_eq_getElem?_getD, List.getElem?_eq_getElem hil]; exact List.getElem_mem hil
  · simp only [List.length_append, List.length_cons, List.length_nil] at hi
    have e0 : i - l.length = 0 := by omega
    rw [e0]; exact h
theorem eAt_snoc {l : List (List V)} {cs : List V} : eAt (l ++ [cs]) l.length = cs := by
  rw [eAt_append, if_neg (by omega), Nat.sub_self]; rfl
theorem set_snoc {l : List (List V)} {cs ds : List V} : (l ++ [cs]).set l.length ds = l ++ [ds] := by
  rw [List.set_append_right _ _ (Nat.le_refl _), Nat.sub_self]; rfl
end

/-! ### In a region that draws its order -/
section
variable {P : Program} {o : Oper} {nt b0 k k' : Nat} {ops : List Oper} {W : Nat → Nat → Bool} {rest : List Oper} {env : List (Nat × V)} {heap : List (Nat × Option Blk)} {Q : St → Prop}
theorem p_storex {T : TypeId} {x y : Operand} {id i s j e : Nat} {l r : List (List V)} {vs : List V} {v : V} (hi : i < l.length) (hr : l.set i (setAt j vs (eAt l i)) = r) (ho : o.op = .store T x y := by rfl) (hg : guardV (lk (looks ops o) env) ops o.guard = some true := by rfl) (hd : o.dst = none := by rfl) (hx : opE (lk (looks ops o) env) x = some (.ptr id i s j) := by rfl) (hh : getH heap id = some (.rox e s l) := by rfl) (hy : opE (lk (looks ops o) env) y = some v := by rfl)
    (hf : flat v = some vs := by rfl) (hT : sizeT P T = some vs.length := by rfl) (hl : Nat.ble (j + vs.length) s = true := by rfl) (hk : k + 1 = k' := by (simp only [Nat.reduceAdd]; rfl)) (hb : Nat.ble b0 k = true := by rfl) (hW : W (k - b0) id = true := by rfl) (hv : vis ops W b0 (k - b0) id = true := by kernel_rfl)
    (h : PL P nt b0 ops W k' rest env ((id, some (.rox e s r)) :: heap) Q) : PL P nt b0 ops W k (o :: rest) env heap Q := by
  subst hk
  subst hr
  refine p_cons (s := ⟨.und, [(id, some (.rox e s (l.set i (setAt j vs (eAt l i)))))]⟩) (fun N h1 h2 => ⟨lk (looks ops o) env, [(id, some (.rox e s l))], fun t x h => lk_spec h, fun id' B' h' => ?_, fun id' h => .inr ?_, ?_⟩) ?_ hb
  · rw [getH_new] at h'
    split at h'
    · rename_i e; subst e; injection h' with h'; subst h'; exact ⟨hv, hh⟩
    · cases h'
  · rw [inH_one h, ho]; exact ⟨hW, rfl, hv⟩
  · refine fam_g hg (fun env' heap' hE hH => ?_)
    have := g_store_rox (P := P) (n0 := N) (st := ⟨env', heap', N, nt⟩) ho hd (opE_mono hE hx) (hH id (.rox e s l) (by simp [getH])) hi (opE_mono hE hy) hf hT hl
    rw [hd]
    exact this
  · rw [hd]; exact h
theorem p_litx {t e len d s : Nat} {parts : Array (Nat × Operand)} {ps : List (Nat × List V)} {l l' : List (List V)} (ho : o.op = .buildSlice t len parts := by rfl) (ht : P.underlying t = some (.slice e) := by rfl) (hs : (sizeT P e).getD 0 = s := by rfl) (hp : partsE (lk (looks ops o) env) parts.toList = some ps := by rfl) (hl : sliceV P e len ps = some l := by rfl) (hN : NormL l l' := by repeat' (first | exact NormL.nil | apply NormL.cons | exact Norm.nil | apply Norm.cons)) (hg : guardV (lk (looks ops o) env) ops o.guard = some true := by rfl) (hd : o.dst = some d := by rfl) (hdn : Nat.blt d nt = true := by rfl) (hlen : Nat.blt 0 len = true := by rfl) (hsm : Nat.ble (len * (sizeT P e).getD 0) 16777216 = true := by rfl) (hk : k + 1 = k' := by (simp only [Nat.reduceAdd]; rfl)) (hb' : Nat.ble b0 k = true := by rfl)
    (h : PL P nt b0 ops W k' rest ((d, .own k) :: env) ((k, some (.rox e s l')) :: heap) Q) : PL P nt b0 ops W k (o :: rest) env heap Q := by
  have e := hN.eq
  subst e
  subst hs
  exact p_at (Hn := []) (H := [(k, some (.rox _ ((sizeT P _).getD 0) l))]) hg hd hk hb' (fun id B h => by cases h) (fun id h => .inl (inH_one h)) (fun N env' heap' hE hH => a_litx (st := ⟨env', heap', N, nt⟩) ho hd hdn ht (partsE_mono hE hp) hl hlen hsm) h
theorem p_appx {x y : Operand} {t e s by_ id id2 d : Nat} {l m r : List (List V)} (hr : l ++ m = r) (hby : (l.length + m.length) * by_ ≤ 140737488355328) (h63 : l.length + m.length ≤ 9223372036854775807)
    (ho : o.op = .call { callee := .builtin .append, args := #[x, y], argTypes := #[t, t] } := by rfl) (hx : opE (lk (looks ops o) env) x = some (.own id) := by rfl) (hh : getH heap id = some (.rox e s l) := by rfl) (hy : opE (lk (looks ops o) env) y = some (.own id2) := by rfl) (hh2 : getH heap id2 = some (.rox e s m) := by rfl) (hne : id ≠ id2 := by decide)
    (ht : P.underlying t = some (.slice e) := by rfl) (hs : sizeT P e = some s := by rfl) (hb : bytesT P e = some by_ := by rfl) (hz : ∃ z, zeroT P e = some z ∧ z.length = s := by exact ⟨_, rfl, rfl⟩) (hg : guardV (lk (looks ops o) env) ops o.guard = some true := by rfl) (hd : o.dst = some d := by rfl) (hdn : Nat.blt d nt = true := by rfl) (hk : k + 1 = k' := by (simp only [Nat.reduceAdd]; rfl)) (hb' : Nat.ble b0 k = true := by rfl) (hW : W (k - b0) id = true := by rfl) (hvs : vis ops W b0 (k - b0) id = true := by kernel_rfl) (hvs2 : vis ops W b0 (k - b0) id2 = true := by kernel_rfl)
    (h : PL P nt b0 ops W k' rest ((d, .own k) :: env) ((k, some (.rox e s r)) :: (id, none) :: heap) Q) : PL P nt b0 ops W k (o :: rest) env heap Q := by
  subst hr
  refine p_at (Hn := [(id, some (.rox e s l)), (id2, some (.rox e s m))]) (H := [(k, some (.rox e s (l ++ m))), (id, none)]) hg hd hk hb' (fun id' B' h' => ?_) (fun id' h => ?_) (fun N env' heap' hE hH => a_appx (st := ⟨env', heap', N, nt⟩) ho hd hdn (opE_mono hE hx) (hH id (.rox e s l) (by rw [getH_new, if_pos rfl])) (opE_mono hE hy) (hH id2 (.rox e s m) (by rw [getH_new, if_neg hne, getH_new, if_pos rfl])) ht hs hb hz hby h63) h
  · rw [getH_new, getH_new] at h'
    split at h'
    · rename_i e; subst e; injection h' with h'; subst h'; exact ⟨hvs, hh⟩
    · split at h'
      · rename_i e; subst e; injection h' with h'; subst h'; exact ⟨hvs2, hh2⟩
      · cases h'
  · simp only [inH, Bool.or_false, Bool.or_eq_true] at h
    rcases h with h | h
    · exact .inl (Nat.eq_of_beq_eq_true h).symm
    · rw [← Nat.eq_of_beq_eq_true h]; exact .inr ⟨hW, app_isW ho, hvs⟩
end
end Go.Proofs.Ytendheafcbickaa
