/-
  A VALUE CALCULUS OVER THE MODEL, part 15: appends whose outcome is data at once; more steps of regions that draw their order. Plain lemmas, over any program.
-/
import Derived.Test.YtnbbnedpjfanoaaAbs14
set_option linter.unusedVariables false
set_option linter.unusedSimpArgs false
set_option linter.unusedVariables false
namespace Go.Proofs.Ytnbbnedpjfanoaa
open Go.RowKit
section
variable {P : Program} {o : Oper} {st : St} {n0 : Nat}

theorem less_sub {st st' : St} (h2 : st'.next = st.next) (h3 : st'.nt = st.nt) (hc : ∀ t v, getE st'.env t = some v → getE st.env t = some v) (hh : ∀ t v, getH st'.heap t = some v → getH st.heap t = some v) : Less P n0 st st' :=
  fun F base w0 ρ a w hH hE => by
    have hs : ∀ b, Stab F ρ st.heap b → Stab F ρ st'.heap b := fun b h => ⟨h.1, fun id B u hB ho hu => h.2 id B u (hh id B hB) ho hu⟩
    refine ⟨ρ, ⟨⟨hH.below, hH.hbase, by rw [h2]; exact hH.sup, fun id id' B B' u u' b hB hB' => hH.inj id id' B B' u u' b (hh _ _ hB) (hh _ _ hB'), fun id B hB => ?_⟩, hH.hF⟩, ⟨by rw [h3]; exact hE.size, hE.defers, fun t v hv => ?_⟩, fun _ _ => rfl⟩
    · exact (hH.blk id B (hh id B hB)).mono (Same.refl _ _) (fun b h _ => hs b h) (fun _ _ h => h) (fun _ _ _ _ _ _ => rfl)
    · exact (hE.slot t v (hc t v hv)).mono (Same.refl _ _) (fun b h _ => hs b h) (fun _ _ h => h)
/-- what is frozen, in slot t: as data -/
theorem less_ro {t id : Nat} {l : List (List V)} {st : St} (ht : getE st.env t = some (.own id)) (hh : getH st.heap id = some (.fro l)) : Less P n0 st { st with env := (t, .ro l) :: st.env } :=
  fun F base w0 ρ a w hH hE => by
    refine ⟨ρ, hH, ⟨hE.size, hE.defers, fun x v hx => ?_⟩, fun _ _ => rfl⟩
    simp only [getE] at hx
    cases hb : Nat.beq t x with
    | true =>
      rw [hb] at hx
      simp only [cond_true, Option.some.injEq] at hx
      subst hx
      have := Nat.eq_of_beq_eq_true hb
      subst this
      obtain ⟨v, h1, h2, _⟩ := hH.blk _ _ hh
      rw [own_inv (hE.slot t _ ht)] at h1; injection h1 with h1
      rw [h1]; exact .pure h2
    | false =>
      rw [hb] at hx
      exact hE.slot x v hx
theorem at_less {k : Nat} {st1 st2 : St} (h : GAt P k o st st1) (hl : Less P st1.next st1 st2) (hn : st2.next = st1.next) (hn2 : st1.next = st.next) : GAt P k o st st2 := fun F base w0 ρ a w hH hE hnn hk => by
  refine upon_mono0 ?_ (h F base w0 ρ a w hH hE hnn hk)
  rintro a' w' ⟨ρ', h1, h2, h3, h4⟩
  obtain ⟨ρ'', q1, q2, q3⟩ := hl F base w0 ρ' a' w' h1 h2
  have none_of : ∀ {r : Nat → Option Value} {n id : Nat}, (∀ id u, r id = some u → id < n ∧ u.oneCell' = true) → n ≤ id → r id = none := fun hs hid => by
    rename_i r n id
    cases hr : r id with
    | none => rfl
    | some u => have := (hs id u hr).1; omega
  have heq : ∀ id, ρ'' id = ρ' id := fun id => by
    by_cases hid : id < st1.next
    · exact q3 id hid
    · rw [none_of q1.sup (by rw [hn]; omega), none_of h1.sup (by omega)]
  exact ⟨ρ'', q1, q2, fun id u hu => by rw [heq]; exact h3 id u hu, fun id hid => by rw [heq]; exact h4 id hid⟩
theorem at_free {k : Nat} {st' : St} (h : getH st.heap k = none → GAt P k o st st') : GAt P k o st st' := fun F base w0 ρ a w hH hE hnn hk => by
  cases hB : getH st.heap k with
  | none => exact h hB F base w0 ρ a w hH hE hnn hk
  | some B =>
    obtain ⟨u, hu⟩ := hH.some_of hB
    rw [hnn] at hu; cases hu
/-- an append whose outcome nobody writes any more -/
theorem a_appro {k : Nat} {x y : Operand} {t e s by_ id d : Nat} {l m : List (List V)} {v : V} (ho : o.op = .call { callee := .builtin .append, args := #[x, y], argTypes := #[t, t] }) (hd : o.dst = some d) (hdn : Nat.blt d st.nt = true)
    (hx : opE st.env x = some (.own id)) (hh : getH st.heap id = some (.row e s l)) (hy : opE st.env y = some v) (hv : srcV st.heap v = some m)
    (ht : P.underlying t = some (.slice e)) (hs : sizeT P e = some s) (hb : bytesT P e = some by_) (hz : ∃ z, zeroT P e = some z ∧ z.length = s)
    (hm : ∀ i, i < m.length → (eAt m i).length = s) (hby : (l.length + m.length) * by_ ≤ 140737488355328) (h63 : l.length + m.length ≤ 9223372036854775807) :
    GAt P k o st { env := (d, .ro (l ++ m)) :: st.env, heap := (id, none) :: st.heap, next := st.next, nt := st.nt } := by
  refine at_free (fun hkk => ?_)
  refine at_less (a_append ho hd hdn hx hh hy hv ht hs hb hz hm hby h63) ?_ rfl rfl
  have h1 : Less P st.next { env := (d, .own k) :: st.env, heap := (k, some (.row e s (l ++ m))) :: (id, none) :: st.heap, next := st.next, nt := st.nt } _ := less_fro (id := k) (e := e) (s := s) (l := l ++ m) (by simp [getH])
  refine h1.trans ?_
  have h2 : Less P st.next { env := (d, .own k) :: st.env, heap := (k, some (.fro (l ++ m))) :: (k, some (.row e s (l ++ m))) :: (id, none) :: st.heap, next := st.next, nt := st.nt } _ := less_ro (t := d) (id := k) (l := l ++ m) (by simp [getE]) (by simp [getH])
  refine h2.trans ?_
  refine less_sub rfl rfl (fun t v hv => ?_) (fun j B hB => ?_)
  · simp only [getE] at hv ⊢
    cases hb : Nat.beq d t with
    | true => rw [hb] at hv; exact hv
    | false => rw [hb] at hv; exact hv
  · rw [getH_new] at hB
    split at hB
    · cases hB
    · rename_i hji
      have hne : k ≠ j := fun e => by rw [← e, hkk] at hB; cases hB
      show getH ((k, some (Blk.fro (l ++ m))) :: (k, some (Blk.row e s (l ++ m))) :: (id, none) :: st.heap) j = _
      rw [getH_new, if_neg hne, getH_new, if_neg hne, getH_new, if_neg hji]
      exact hB
/-- an append onto nothing -/
theorem a_app0 {k : Nat} {x y : Operand} {t e s by_ d : Nat} {m : List (List V)} {v : V} (ho : o.op = .call { callee := .builtin .append, args := #[x, y], argTypes := #[t, t] }) (hd : o.dst = some d) (hdn : Nat.blt d st.nt = true)
    (hx : opE st.env x = some (.lit (.slice none 0 0))) (hy : opE st.env y = some v) (hv : srcV st.heap v = some m)
    (ht : P.underlying t = some (.slice e)) (hs : sizeT P e = some s) (h0 : Nat.blt 0 s = true) (hb : bytesT P e = some by_) (hz : ∃ z, zeroT P e = some z ∧ z.length = s)
    (hm : ∀ i, i < m.length → (eAt m i).length = s) (hby : m.length * by_ ≤ 140737488355328) (h63 : m.length ≤ 9223372036854775807) :
    GAt P k o st (st.newAt k d (.own k) (.row e s m)) := fun F base w0 ρ a w hH hE hnn hk => by
  obtain ⟨i, z, hi, hz1, hsz, hbb, hzs⟩ := elem_info hs hb hz
  have h0 := Nat.le_of_ble_eq_true h0
  have hxv := lit_inv (opE_sound hE hx)
  obtain ⟨A, c, news, hu, hnl, hA, hrel⟩ := src_spec hH.toHRel0 (opE_sound hE hy) hv hm h0
  have hone := pure_cells h0 hnl hrel
  obtain ⟨v', w', hr, hown, hg, hblk⟩ := app_run (P := P) (ty := o.type) ht hi hz1 hsz hbb hzs h0 (World.ownsRow_nil w 0 e s) (c := c) hnl hA hone (by unfold maxLen; omega) (by rw [Nat.zero_add]; exact hby) (Nat.zero_le _)
  rw [Nat.zero_add, List.nil_append] at hown
  have hB : Below w.heap.size w w' := ⟨hg.os, hg.tape, hg.output, hg.size, fun j hj => hg.block j hj (by simp [Value.ownBlock])⟩
  have hnew : ∀ b, blockOf v' = some b → w.heap.size ≤ b := fun b hb => hblk.elim (fun h => by rw [h] at hb; simp [blockOf] at hb) (fun h => h b hb)
  have hv'1 : v'.oneCell' = true := by rcases hown.2 with ⟨rfl, _⟩ | ⟨_, _, _, rfl, _⟩ <;> rfl
  refine wp_of_value (u := v') (w' := w') ?_ ?_
  · unfold execOp; rw [ho]
    simp only [resolve, invoke, builtin, Sem.run_bind, Sem.run_pure, Result.andThen_ok, List.map_toArray, List.map_cons, List.map_nil, hu, hxv, hr]
  · rw [hd]
    refine next_new hH hE hnn hk hB (fun _ b hb => hnew b hb) (Nat.le_of_ble_eq_true hdn) hv'1 (fun S hS _ hsame => ?_) (fun S => .own (upd_same _ _ _))
    refine ⟨h0, v', news, upd_same _ _ _, ⟨hown, fun b hb => hH.hbase b (hnew b hb)⟩, hm, fun i j hi hj => ?_⟩
    obtain ⟨u, g1, g2⟩ := hrel i j hi hj
    exact ⟨u, g1, g2.mono hsame hS, g2.one⟩
theorem a_app0ro {k : Nat} {x y : Operand} {t e s by_ d : Nat} {m : List (List V)} {v : V} (ho : o.op = .call { callee := .builtin .append, args := #[x, y], argTypes := #[t, t] }) (hd : o.dst = some d) (hdn : Nat.blt d st.nt = true)
    (hx : opE st.env x = some (.lit (.slice none 0 0))) (hy : opE st.env y = some v) (hv : srcV st.heap v = some m)
    (ht : P.underlying t = some (.slice e)) (hs : sizeT P e = some s) (h0 : Nat.blt 0 s = true) (hb : bytesT P e = some by_) (hz : ∃ z, zeroT P e = some z ∧ z.length = s)
    (hm : ∀ i, i < m.length → (eAt m i).length = s) (hby : m.length * by_ ≤ 140737488355328) (h63 : m.length ≤ 9223372036854775807) :
    GAt P k o st { env := (d, .ro m) :: st.env, heap := st.heap, next := st.next, nt := st.nt } := by
  refine at_free (fun hkk => ?_)
  refine at_less (a_app0 ho hd hdn hx hy hv ht hs h0 hb hz hm hby h63) ?_ rfl rfl
  have h1 : Less P st.next { env := (d, .own k) :: st.env, heap := (k, some (.row e s m)) :: st.heap, next := st.next, nt := st.nt } _ := less_fro (id := k) (e := e) (s := s) (l := m) (by simp [getH])
  refine h1.trans ?_
  have h2 : Less P st.next { env := (d, .own k) :: st.env, heap := (k, some (.fro m)) :: (k, some (.row e s m)) :: st.heap, next := st.next, nt := st.nt } _ := less_ro (t := d) (id := k) (l := m) (by simp [getE]) (by simp [getH])
  refine h2.trans ?_
  refine less_sub rfl rfl (fun t v hv => ?_) (fun j B hB => ?_)
  · simp only [getE] at hv ⊢
    cases hb : Nat.beq d t with
    | true => rw [hb] at hv; exact hv
    | false => rw [hb] at hv; exact hv
  · have hne : k ≠ j := fun e => by rw [← e, hkk] at hB; cases hB
    show getH ((k, some (Blk.fro m)) :: (k, some (Blk.row e s m)) :: st.heap) j = _
    rw [getH_new, if_neg hne, getH_new, if_neg hne]
    exact hB

/-- a slice literal without elements -/
theorem run_lit0 {t e s : Nat} (ht : P.underlying t = some (.slice e)) (hs : sizeT P e = some s) (w : World) : (Instr.buildSlice t 0 #[]).run P w = .ok (.slice (some ⟨w.heap.size, 0, none⟩) 0 0) (w.alloc (.cells #[] e)) := by
  simp only [Instr.buildSlice, Sem.run_bind, run_underlying ht, Result.andThen_ok, run_sizeT hs, Nat.zero_mul]
  simp [Instr.fill, newRow, Sem.run_bind, Sem.run_pure, show Array.range 0 = #[] from rfl]
theorem a_lit0 {k t e s d : Nat} (ho : o.op = .buildSlice t 0 #[]) (hd : o.dst = some d) (hdn : Nat.blt d st.nt = true) (ht : P.underlying t = some (.slice e)) (hs : sizeT P e = some s) (h0 : Nat.blt 0 s = true) :
    GAt P k o st (st.newAt k d (.own k) (.row e s [])) := fun F base w0 ρ a w hH hE hnn hk => by
  refine wp_of_value (u := .slice (some ⟨w.heap.size, 0, none⟩) 0 0) (w' := w.alloc (.cells #[] e)) ?_ ?_
  · unfold execOp; rw [ho]
    have := run_lit0 ht hs w
    simp only [List.map_toArray, List.map_nil, Sem.run_bind, this]; rfl
  · rw [hd]
    refine next_new hH hE hnn hk (below_alloc _ _) (fun _ b hb => by simp only [blockOf, Option.some.injEq] at hb; omega) (Nat.le_of_ble_eq_true hdn) rfl (fun S hS _ hsame => ?_) (fun S => .own (upd_same _ _ _))
    refine ⟨Nat.le_of_ble_eq_true h0, _, [], upd_same _ _ _, ⟨⟨by simp, .inr ⟨w.heap.size, 0, #[], rfl, Nat.zero_le _, alloc_cells _ _ _, Nat.le_refl _, by unfold maxLen; omega, by simp, by simp⟩⟩, fun b hb => ?_⟩, fun i hi => by simp at hi, fun i j hi => by simp at hi⟩
    simp only [blockOf, Option.some.injEq] at hb; exact hH.hbase b (by omega)

section
variable {ops : List Oper} {rest : List Oper} {env : List (Nat × V)} {heap : List (Nat × Option Blk)} {next nt : Nat} {Q : St → Prop}

theorem s_appro {x y : Operand} {t e s by_ id d : Nat} {l m r : List (List V)} {v : V} (hr : l ++ m = r) (hm : ∀ i, i < m.length → (eAt m i).length = s) (hby : (l.length + m.length) * by_ ≤ 140737488355328) (h63 : l.length + m.length ≤ 9223372036854775807)
    (ho : o.op = .call { callee := .builtin .append, args := #[x, y], argTypes := #[t, t] } := by rfl) (hx : opE env x = some (.own id) := by rfl) (hh : getH heap id = some (.row e s l) := by rfl) (hy : opE env y = some v := by rfl) (hv : srcV heap v = some m := by rfl)
    (ht : P.underlying t = some (.slice e) := by rfl) (hs : sizeT P e = some s := by rfl) (hb : bytesT P e = some by_ := by rfl) (hz : ∃ z, zeroT P e = some z ∧ z.length = s := by exact ⟨_, rfl, rfl⟩) (hg : guardV env ops o.guard = some true := by rfl) (hd : o.dst = some d := by rfl) (hdn : Nat.blt d nt = true := by rfl) (hn0 : Nat.ble n0 next = true := by rfl)
    (h : RunL P n0 ops.toArray rest ⟨(d, .ro r) :: env, (id, none) :: heap, next + 1, nt⟩ Q) : RunL P n0 ops.toArray (o :: rest) ⟨env, heap, next, nt⟩ Q := by
  subst hr
  exact l_g hg (gstep_of_at (Nat.le_of_ble_eq_true hn0) (a_appro (st := { env := env, heap := heap, next := next + 1, nt := nt }) ho hd hdn hx hh hy hv ht hs hb hz hm hby h63)) h
theorem s_app0 {x y : Operand} {t e s by_ d : Nat} {m : List (List V)} {v : V} (hm : ∀ i, i < m.length → (eAt m i).length = s) (hby : m.length * by_ ≤ 140737488355328) (h63 : m.length ≤ 9223372036854775807)
    (ho : o.op = .call { callee := .builtin .append, args := #[x, y], argTypes := #[t, t] } := by rfl) (hx : opE env x = some (.lit (.slice none 0 0)) := by rfl) (hy : opE env y = some v := by rfl) (hv : srcV heap v = some m := by rfl)
    (ht : P.underlying t = some (.slice e) := by rfl) (hs : sizeT P e = some s := by rfl) (hb : bytesT P e = some by_ := by rfl) (hz : ∃ z, zeroT P e = some z ∧ z.length = s := by exact ⟨_, rfl, rfl⟩) (h0 : Nat.blt 0 s = true := by rfl) (hg : guardV env ops o.guard = some true := by rfl) (hd : o.dst = some d := by rfl) (hdn : Nat.blt d nt = true := by rfl) (hn0 : Nat.ble n0 next = true := by rfl)
    (h : RunL P n0 ops.toArray rest ⟨(d, .own next) :: env, (next, some (.row e s m)) :: heap, next + 1, nt⟩ Q) : RunL P n0 ops.toArray (o :: rest) ⟨env, heap, next, nt⟩ Q :=
  l_g hg (gstep_of_at (Nat.le_of_ble_eq_true hn0) (a_app0 (st := { env := env, heap := heap, next := next + 1, nt := nt }) ho hd hdn hx hy hv ht hs h0 hb hz hm hby h63)) h
theorem s_app0ro {x y : Operand} {t e s by_ d : Nat} {m : List (List V)} {v : V} (hm : ∀ i, i < m.length → (eAt m i).length = s) (hby : m.length * by_ ≤ 140737488355328) (h63 : m.length ≤ 9223372036854775807)
    (ho : o.op = .call { callee := .builtin .append, args := #[x, y], argTypes := #[t, t] } := by rfl) (hx : opE env x = some (.lit (.slice none 0 0)) := by rfl) (hy : opE env y = some v := by rfl) (hv : srcV heap v = some m := by rfl)
    (ht : P.underlying t = some (.slice e) := by rfl) (hs : sizeT P e = some s := by rfl) (hb : bytesT P e = some by_ := by rfl) (hz : ∃ z, zeroT P e = some z ∧ z.length = s := by exact ⟨_, rfl, rfl⟩) (h0 : Nat.blt 0 s = true := by rfl) (hg : guardV env ops o.guard = some true := by rfl) (hd : o.dst = some d := by rfl) (hdn : Nat.blt d nt = true := by rfl) (hn0 : Nat.ble n0 next = true := by rfl)
    (h : RunL P n0 ops.toArray rest ⟨(d, .ro m) :: env, heap, next + 1, nt⟩ Q) : RunL P n0 ops.toArray (o :: rest) ⟨env, heap, next, nt⟩ Q :=
  l_g hg (gstep_of_at (Nat.le_of_ble_eq_true hn0) (a_app0ro (st := { env := env, heap := heap, next := next + 1, nt := nt }) ho hd hdn hx hy hv ht hs h0 hb hz hm hby h63)) h
end

section
variable {nt b0 k k' : Nat} {ops : List Oper} {W : Nat → Nat → Bool} {rest : List Oper} {env : List (Nat × V)} {heap : List (Nat × Option Blk)} {Q : St → Prop}
theorem srcV_mono {E heap : List (Nat × Option Blk)} (h : CovH E heap) {v : V} {m : List (List V)} (hv : srcV E v = some m) : srcV heap v = some m := by
  cases v with
  | own id =>
    simp only [srcV] at hv ⊢
    cases hB : getH E id with
    | none => rw [hB] at hv; cases hv
    | some B => rw [h id B hB]; rw [hB] at hv; exact hv
  | lit u =>
    cases u with
    | slice A n c => cases A <;> cases n <;> exact hv
    | _ => exact hv
  | _ => exact hv
/-- a step that takes number k -/
theorem p_at {Hn H : List (Nat × Option Blk)} {v : V} {d : Nat} (hg : guardV (lk (looks ops o) env) ops o.guard = some true) (hd : o.dst = some d) (hk : k + 1 = k') (hb : Nat.ble b0 k = true)
    (hHn : ∀ id B, getH Hn id = some B → vis ops W b0 (k - b0) id = true ∧ getH heap id = some B) (hH : ∀ id, inH H id = true → id = k ∨ (W (k - b0) id = true ∧ isWc o.op = true ∧ vis ops W b0 (k - b0) id = true))
    (hq : ∀ N env' heap', CovE (lk (looks ops o) env) env' → CovH Hn heap' → GAt P k o ⟨env', heap', N, nt⟩ ⟨(d, v) :: env', H ++ heap', N, nt⟩)
    (h : PL P nt b0 ops W k' rest ((d, v) :: env) (H ++ heap) Q) : PL P nt b0 ops W k (o :: rest) env heap Q := by
  subst hk
  refine p_cons (s := ⟨v, H⟩) (fun N h1 h2 => ⟨lk (looks ops o) env, Hn, fun t x h => lk_spec h, hHn, fun id h => ?_, ?_⟩) ?_ hb
  · rw [show b0 + (k - b0) = k by omega]; exact hH id h
  · rw [show b0 + (k - b0) = k by omega]
    refine fam_at hg h2 (fun env' heap' hE hHc => ?_)
    rw [hd]
    exact hq N env' heap' hE hHc
  · rw [hd]; exact h
theorem one_vis {id : Nat} {B : Blk} {i : Nat} (hv : vis ops W b0 i id = true) (hh : getH heap id = some B) : ∀ id' B', getH [(id, some B)] id' = some B' → vis ops W b0 i id' = true ∧ getH heap id' = some B' := by
  intro id' B' h'
  rw [getH_new] at h'
  split at h'
  · rename_i e; subst e; injection h' with h'; subst h'; exact ⟨hv, hh⟩
  · cases h'
theorem p_app0 {x y : Operand} {t e s by_ d : Nat} {m : List (List V)} {v : V} (hm : ∀ i, i < m.length → (eAt m i).length = s) (hby : m.length * by_ ≤ 140737488355328) (h63 : m.length ≤ 9223372036854775807)
    (ho : o.op = .call { callee := .builtin .append, args := #[x, y], argTypes := #[t, t] } := by rfl) (hx : opE (lk (looks ops o) env) x = some (.lit (.slice none 0 0)) := by rfl) (hy : opE (lk (looks ops o) env) y = some v := by rfl) (hv : srcV [] v = some m := by rfl)
    (ht : P.underlying t = some (.slice e) := by rfl) (hs : sizeT P e = some s := by rfl) (hb : bytesT P e = some by_ := by rfl) (hz : ∃ z, zeroT P e = some z ∧ z.length = s := by exact ⟨_, rfl, rfl⟩) (h0 : Nat.blt 0 s = true := by rfl) (hg : guardV (lk (looks ops o) env) ops o.guard = some true := by rfl) (hd : o.dst = some d := by rfl) (hdn : Nat.blt d nt = true := by rfl) (hk : k + 1 = k' := by (simp only [Nat.reduceAdd]; rfl)) (hb' : Nat.ble b0 k = true := by rfl)
    (h : PL P nt b0 ops W k' rest ((d, .own k) :: env) ((k, some (.row e s m)) :: heap) Q) : PL P nt b0 ops W k (o :: rest) env heap Q :=
  p_at (Hn := []) (H := [(k, some (.row e s m))]) hg hd hk hb' (fun id B h => by cases h) (fun id h => .inl (inH_one h)) (fun N env' heap' hE hH => a_app0 (st := ⟨env', heap', N, nt⟩) ho hd hdn (opE_mono hE hx) (opE_mono hE hy) (srcV_mono hH hv) ht hs h0 hb hz hm hby h63) h
theorem p_app0ro {x y : Operand} {t e s by_ d : Nat} {m : List (List V)} {v : V} (hm : ∀ i, i < m.length → (eAt m i).length = s) (hby : m.length * by_ ≤ 140737488355328) (h63 : m.length ≤ 9223372036854775807)
    (ho : o.op = .call { callee := .builtin .append, args := #[x, y], argTypes := #[t, t] } := by rfl) (hx : opE (lk (looks ops o) env) x = some (.lit (.slice none 0 0)) := by rfl) (hy : opE (lk (looks ops o) env) y = some v := by rfl) (hv : srcV [] v = some m := by rfl)
    (ht : P.underlying t = some (.slice e) := by rfl) (hs : sizeT P e = some s := by rfl) (hb : bytesT P e = some by_ := by rfl) (hz : ∃ z, zeroT P e = some z ∧ z.length = s := by exact ⟨_, rfl, rfl⟩) (h0 : Nat.blt 0 s = true := by rfl) (hg : guardV (lk (looks ops o) env) ops o.guard = some true := by rfl) (hd : o.dst = some d := by rfl) (hdn : Nat.blt d nt = true := by rfl) (hk : k + 1 = k' := by (simp only [Nat.reduceAdd]; rfl)) (hb' : Nat.ble b0 k = true := by rfl)
    (h : PL P nt b0 ops W k' rest ((d, .ro m) :: env) heap Q) : PL P nt b0 ops W k (o :: rest) env heap Q :=
  p_at (Hn := []) (H := []) hg hd hk hb' (fun id B h => by cases h) (fun id h => (inH_nil h).elim) (fun N env' heap' hE hH => a_app0ro (st := ⟨env', heap', N, nt⟩) ho hd hdn (opE_mono hE hx) (opE_mono hE hy) (srcV_mono hH hv) ht hs h0 hb hz hm hby h63) h
theorem p_lit0 {t e s d : Nat} (ho : o.op = .buildSlice t 0 #[] := by rfl) (ht : P.underlying t = some (.slice e) := by rfl) (hs : sizeT P e = some s := by rfl) (h0 : Nat.blt 0 s = true := by rfl) (hg : guardV (lk (looks ops o) env) ops o.guard = some true := by rfl) (hd : o.dst = some d := by rfl) (hdn : Nat.blt d nt = true := by rfl) (hk : k + 1 = k' := by (simp only [Nat.reduceAdd]; rfl)) (hb' : Nat.ble b0 k = true := by rfl)
    (h : PL P nt b0 ops W k' rest ((d, .own k) :: env) ((k, some (.row e s [])) :: heap) Q) : PL P nt b0 ops W k (o :: rest) env heap Q :=
  p_at (Hn := []) (H := [(k, some (.row e s []))]) hg hd hk hb' (fun id B h => by cases h) (fun id h => .inl (inH_one h)) (fun N env' heap' hE hH => a_lit0 (st := ⟨env', heap', N, nt⟩) ho hd hdn ht hs h0) h
theorem partsE_mono {E env : List (Nat × V)} (h : CovE E env) : ∀ {xs : List (Nat × Operand)} {ps : List (Nat × List V)}, partsE E xs = some ps → partsE env xs = some ps
  | [], ps, hx => hx
  | (i, x) :: xs, ps, hx => by
    simp only [partsE] at hx ⊢
    split at hx
    · rename_i v hv
      rw [opE_mono h hv]
      split at hx
      · rename_i cs ps' h1 h2
        simp only [h1, partsE_mono h h2]; exact hx
      · cases hx
    · cases hx
theorem p_lit {t e len d : Nat} {parts : Array (Nat × Operand)} {ps : List (Nat × List V)} {l l' : List (List V)} (ho : o.op = .buildSlice t len parts := by rfl) (ht : P.underlying t = some (.slice e) := by rfl) (hp : partsE (lk (looks ops o) env) parts.toList = some ps := by rfl) (hl : sliceV P e len ps = some l := by rfl) (hN : NormL l l' := by repeat' (first | exact NormL.nil | apply NormL.cons | exact Norm.nil | apply Norm.cons)) (hpu : l'.all (fun cs => cs.all pureV) = true := by rfl) (hg : guardV (lk (looks ops o) env) ops o.guard = some true := by rfl) (hd : o.dst = some d := by rfl) (hdn : Nat.blt d nt = true := by rfl) (hlen : Nat.blt 0 len = true := by rfl) (hsm : Nat.ble (len * (sizeT P e).getD 0) 16777216 = true := by rfl) (hk : k + 1 = k' := by (simp only [Nat.reduceAdd]; rfl)) (hb' : Nat.ble b0 k = true := by rfl)
    (h : PL P nt b0 ops W k' rest ((d, .ro l') :: env) heap Q) : PL P nt b0 ops W k (o :: rest) env heap Q := by
  have e := hN.eq
  subst e
  subst hk
  refine p_cons (s := ⟨.ro l, []⟩) (fun N _ _ => ⟨lk (looks ops o) env, [], fun t x h => lk_spec h, fun id B h => (by cases h), fun id h => (inH_nil h).elim, fam_g hg (fun env' heap' hE hH => ?_)⟩) ?_ hb'
  · have := g_lit (P := P) (n0 := N) (st := ⟨env', heap', N, nt⟩) ho hd hdn ht (partsE_mono hE hp) hl hpu hlen hsm
    rw [hd]
    exact this
  · rw [hd]; exact h
theorem app_isW {x y : Operand} {t : Nat} (ho : o.op = .call { callee := .builtin .append, args := #[x, y], argTypes := #[t, t] }) : isWc o.op = true := by rw [ho]; rfl
theorem p_app {x y : Operand} {t e s by_ id d : Nat} {l m r : List (List V)} {v : V} (hr : l ++ m = r) (hm : ∀ i, i < m.length → (eAt m i).length = s) (hby : (l.length + m.length) * by_ ≤ 140737488355328) (h63 : l.length + m.length ≤ 9223372036854775807)
    (ho : o.op = .call { callee := .builtin .append, args := #[x, y], argTypes := #[t, t] } := by rfl) (hx : opE (lk (looks ops o) env) x = some (.own id) := by rfl) (hh : getH heap id = some (.row e s l) := by rfl) (hy : opE (lk (looks ops o) env) y = some v := by rfl) (hv : srcV [] v = some m := by rfl)
    (ht : P.underlying t = some (.slice e) := by rfl) (hs : sizeT P e = some s := by rfl) (hb : bytesT P e = some by_ := by rfl) (hz : ∃ z, zeroT P e = some z ∧ z.length = s := by exact ⟨_, rfl, rfl⟩) (hg : guardV (lk (looks ops o) env) ops o.guard = some true := by rfl) (hd : o.dst = some d := by rfl) (hdn : Nat.blt d nt = true := by rfl) (hk : k + 1 = k' := by (simp only [Nat.reduceAdd]; rfl)) (hb' : Nat.ble b0 k = true := by rfl) (hW : W (k - b0) id = true := by rfl) (hvs : vis ops W b0 (k - b0) id = true := by kernel_rfl)
    (h : PL P nt b0 ops W k' rest ((d, .own k) :: env) ((k, some (.row e s r)) :: (id, none) :: heap) Q) : PL P nt b0 ops W k (o :: rest) env heap Q := by
  subst hr
  refine p_at (Hn := [(id, some (.row e s l))]) (H := [(k, some (.row e s (l ++ m))), (id, none)]) hg hd hk hb' (one_vis hvs hh) (fun id' h => ?_) (fun N env' heap' hE hH => a_append (st := ⟨env', heap', N, nt⟩) ho hd hdn (opE_mono hE hx) (hH id (.row e s l) (by simp [getH])) (opE_mono hE hy) (srcV_mono (E := []) (fun t x h => by cases h) hv) ht hs hb hz hm hby h63) h
  simp only [inH, Bool.or_false, Bool.or_eq_true] at h
  rcases h with h | h
  · exact .inl (Nat.eq_of_beq_eq_true h).symm
  · rw [← Nat.eq_of_beq_eq_true h]; exact .inr ⟨hW, app_isW ho, hvs⟩
theorem p_appro {x y : Operand} {t e s by_ id d : Nat} {l m r : List (List V)} {v : V} (hr : l ++ m = r) (hm : ∀ i, i < m.length → (eAt m i).length = s) (hby : (l.length + m.length) * by_ ≤ 140737488355328) (h63 : l.length + m.length ≤ 9223372036854775807)
    (ho : o.op = .call { callee := .builtin .append, args := #[x, y], argTypes := #[t, t] } := by rfl) (hx : opE (lk (looks ops o) env) x = some (.own id) := by rfl) (hh : getH heap id = some (.row e s l) := by rfl) (hy : opE (lk (looks ops o) env) y = some v := by rfl) (hv : srcV [] v = some m := by rfl)
    (ht : P.underlying t = some (.slice e) := by rfl) (hs : sizeT P e = some s := by rfl) (hb : bytesT P e = some by_ := by rfl) (hz : ∃ z, zeroT P e = some z ∧ z.length = s := by exact ⟨_, rfl, rfl⟩) (hg : guardV (lk (looks ops o) env) ops o.guard = some true := by rfl) (hd : o.dst = some d := by rfl) (hdn : Nat.blt d nt = true := by rfl) (hk : k + 1 = k' := by (simp only [Nat.reduceAdd]; rfl)) (hb' : Nat.ble b0 k = true := by rfl) (hW : W (k - b0) id = true := by rfl) (hvs : vis ops W b0 (k - b0) id = true := by kernel_rfl)
    (h : PL P nt b0 ops W k' rest ((d, .ro r) :: env) ((id, none) :: heap) Q) : PL P nt b0 ops W k (o :: rest) env heap Q := by
  subst hr
  refine p_at (Hn := [(id, some (.row e s l))]) (H := [(id, none)]) hg hd hk hb' (one_vis hvs hh) (fun id' h => ?_) (fun N env' heap' hE hH => a_appro (st := ⟨env', heap', N, nt⟩) ho hd hdn (opE_mono hE hx) (hH id (.row e s l) (by simp [getH])) (opE_mono hE hy) (srcV_mono (E := []) (fun t x h => by cases h) hv) ht hs hb hz hm hby h63) h
  rw [inH_one h]; exact .inr ⟨hW, app_isW ho, hvs⟩
end
end
end Go.Proofs.Ytnbbnedpjfanoaa
