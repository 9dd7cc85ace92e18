/-
  A VALUE CALCULUS OVER THE MODEL, part 22: the bytes of a string by index; a string's bytes appended to a row of the call's own. Plain lemmas, over any program.
-/
import Derived.Test.YtnbbnedpjfanoaaAbs21
import Derived.Lib.AppendStr
set_option linter.unusedVariables false
set_option linter.unusedSimpArgs false
set_option linter.unusedVariables false
namespace Go.Proofs.Ytnbbnedpjfanoaa
open Go.RowKit
theorem u8_info {P : Program} {e : TypeId} (h : (match P.info? e with | some i => (match i.zero with | some (.int .u8 0) => Nat.beq i.size 1 && Nat.beq i.bytes 1 | _ => false) | none => false) = true) : ∃ i, P.info? e = some i ∧ i.zero = some (.int .u8 0) ∧ i.size = 1 ∧ i.bytes = 1 := by
  split at h
  · rename_i i hi
    split at h
    · rename_i hz
      simp only [Bool.and_eq_true] at h
      exact ⟨i, hi, hz, Nat.eq_of_beq_eq_true h.1, Nat.eq_of_beq_eq_true h.2⟩
    · cases h
  · cases h
theorem appS_run {P : Program} {base : Nat} {w : World} {t u ty e : TypeId} {i : TypeInfo} (ht : P.underlying t = some (.slice e)) (hu : P.underlying u = some .string) (hi : P.info? e = some i) (hz : i.zero = some (.int .u8 0)) (hsize : i.size = 1) (hby : i.bytes = 1)
    {v : Value} {n : Nat} {xs : List Value} (hown : w.ownsRow base e 1 v n xs) (s : ByteArray) (h63 : n + s.size ≤ maxLen) (hbytes : n + s.size ≤ 140737488355328) (hbase : base ≤ w.heap.size) :
    ∃ v' w', (Builtin.append_ #[t, u] ty #[v, .string s]).run P w = .ok v' w' ∧ w'.ownsRow base e 1 v' (n + s.size) (xs ++ Lib.strCells s) ∧ w.grownBy w' v.ownBlock ∧ (blockOf v' = blockOf v ∨ ∀ b, blockOf v' = some b → w.heap.size ≤ b) := by
  obtain ⟨v', w', hr, ho, hg, hnil⟩ := Lib.run_append_own_string (P := P) w base t u ty e i ht hu hi hz hsize hby v n xs hown s h63 hbytes hbase
  refine ⟨v', w', hr, ho, hg, ?_⟩
  have hsmall : n + s.size ≤ 9223372036854775807 := by simp only [maxLen] at h63; omega
  rcases hown.2 with ⟨rfl, rfl⟩ | ⟨g, cap, cur, rfl, hbg, hgg, hnc, hcm, hcs, htake⟩
  · obtain ⟨v2, w2, hr2, ho2, _, _⟩ := Lib.run_append_own_string (P := P) w w.heap.size t u ty e i ht hu hi hz hsize hby (.slice none 0 0) 0 xs ⟨hown.1, .inl ⟨rfl, rfl⟩⟩ s h63 hbytes (Nat.le_refl _)
    rw [hr] at hr2
    injection hr2 with e1 e2
    subst e1 e2
    rcases ho2.2 with ⟨rfl, _⟩ | ⟨g', cap', cur', rfl, hbg', _⟩
    · exact .inl rfl
    · exact .inr (fun b hb => by simp only [blockOf, Option.some.injEq] at hb; omega)
  · have hcs' : cur.size = cap := by simpa using hcs
    by_cases hroom : n + s.size ≤ cap
    · have hr2 := Lib.run_append_room_string (P := P) w t u ty e i ht hu hi hsize g n cap cur hgg s hroom (by omega)
      rw [hr] at hr2
      injection hr2 with e1 _
      rw [e1]; exact .inl rfl
    · have hr2 := Lib.run_append_grow_string (P := P) w t u ty e i (.int .u8 0) ht hu hi hz ⟨g, 0, none⟩ n cap xs (by rw [hsize]; exact hown.1) (hown.cells (g := g) rfl) s (by omega) (by omega) (by rw [hby]; exact growslice_fits (by omega) (by omega))
      rw [hr] at hr2
      injection hr2 with e1 _
      rw [e1]
      exact .inr (fun b hb => by simp only [blockOf, Option.some.injEq] at hb; omega)
/-- a string's bytes onto a row of the call's own -/
theorem a_appS {P : Program} {o : Oper} {st : St} {k : Nat} {x y : Operand} {t u e id d : Nat} {l : List (List V)} {bs : List UInt8} (ho : o.op = .call { callee := .builtin .append, args := #[x, y], argTypes := #[t, u] }) (hd : o.dst = some d) (hdn : Nat.blt d st.nt = true)
    (hx : opE st.env x = some (.own id)) (hh : getH st.heap id = some (.row e 1 l)) (hy : opE st.env y = some (.lit (.string (strB bs))))
    (ht : P.underlying t = some (.slice e)) (hut : P.underlying u = some .string) (hzi : (match P.info? e with | some i => (match i.zero with | some (.int .u8 0) => Nat.beq i.size 1 && Nat.beq i.bytes 1 | _ => false) | none => false) = true)
    (hby : l.length + bs.length ≤ 140737488355328) :
    GAt P k o st { env := (d, .own k) :: st.env, heap := (k, some (.row e 1 (l ++ bs.map encB))) :: (id, none) :: st.heap, next := st.next, nt := st.nt } := fun F base w0 ρ a w hH hE hnn hk => by
  have hs0 : (0 : Nat) < 1 := Nat.zero_lt_one
  obtain ⟨i, hi, hz1, hsz, hbb⟩ := u8_info hzi
  have hxv := own_inv (opE_sound hE hx)
  obtain ⟨h0, r, xs, h1, ⟨h2, h2b⟩, h3, h4⟩ := hH.blk _ _ hh
  rw [hxv] at h1; injection h1 with h1; subst h1
  have hu := lit_inv (opE_sound hE hy)
  have hnews : Lib.strCells (strB bs) = bs.map fun c => .int .u8 (c.toNat : Int) := by unfold Lib.strCells; rw [strB_list]
  have hm : ∀ i, i < (bs.map encB).length → (eAt (bs.map encB) i).length = 1 := fun i hi => by
    rw [List.length_map] at hi
    rw [eAt_map encB hi]; rfl
  have hrel : ∀ i j, i < (bs.map encB).length → j < 1 → ∃ u, (bs.map fun c => Value.int .u8 (c.toNat : Int))[i * 1 + j]? = some u ∧ PRel (Stab F ρ st.heap) w (cAt (eAt (bs.map encB) i) j) u := fun i j hi hj => by
    rw [List.length_map] at hi
    have hj0 : j = 0 := by omega
    subst hj0
    rw [eAt_map encB hi]
    refine ⟨.int .u8 ((bs.getD i default).toNat : Int), ?_, .lit _ rfl⟩
    rw [Nat.mul_one, Nat.add_zero, List.getElem?_map, List.getD_eq_getElem?_getD, List.getElem?_eq_getElem hi]
    rfl
  obtain ⟨v', w', hr, hown, hg, hblk⟩ := appS_run (P := P) (w := w) (ty := o.type) ht hut hi hz1 hsz hbb h2 (strB bs) (by rw [strB_size]; unfold maxLen; omega) (by rw [strB_size]; omega) (Nat.zero_le _)
  rw [hnews, strB_size] at hown
  have hid : id ≠ k := fun e => by rw [e, hnn] at hxv; cases hxv
  have hext : ∀ id x, ρ id = some x → upd ρ k v' id = some x := fun id x h => by rw [upd_ne _ _ (fun e => by rw [e, hnn] at h; cases h)]; exact h
  have hob : ∀ b, (a.eval x).ownBlock = some b → blockOf (a.eval x) = some b := fun b hb => by
    cases hav : a.eval x <;> rw [hav] at hb <;> simp [Value.ownBlock] at hb
    rename_i a0 _ _
    cases a0 <;> simp_all [Value.ownBlock, blockOf]
  have hv'1 : v'.oneCell' = true := by rcases hown.2 with ⟨rfl, _⟩ | ⟨_, _, _, rfl, _⟩ <;> rfl
  refine wp_of_value (u := v') (w' := w') ?_ ?_
  · unfold execOp; rw [ho]
    simp only [resolve, invoke, builtin, Sem.run_bind, Sem.run_pure, Result.andThen_ok, List.map_toArray, List.map_cons, List.map_nil, hu, hr]
  · rw [hd]
    obtain ⟨q1, q2, q3⟩ := hH.step (ρ' := upd ρ k v') (heap' := (k, some (.row e 1 (l ++ bs.map encB))) :: (id, none) :: st.heap) (next' := st.next) k (a.eval x).ownBlock hg
      (fun kk hk => by
        have hbk := hob kk hk
        exact ⟨(hH.owned hh rfl hxv hbk).1, fun hst => hst.2 id _ _ hh rfl hxv hbk⟩) hext
      (fun id x h => by
        by_cases e : id = k
        · rw [e, upd_same] at h; injection h with h; subst h; exact ⟨by omega, hv'1⟩
        · rw [upd_ne _ _ e] at h; have := hH.sup _ _ h; exact ⟨by omega, this.2⟩)
      (fun j B hne hB => by
        rw [getH_new, if_neg (Ne.symm hne), getH_new] at hB
        split at hB
        · cases hB
        · rename_i hji
          refine ⟨hB, ?_⟩
          obtain ⟨u, hu⟩ := hH.some_of hB
          exact ⟨u, hu, fun ho b hb e => hji (hH.inj id j _ B _ u b hh hB rfl ho hxv hu (hob b e) hb)⟩)
      (fun B u b hB hoB hu hb => by
        rw [upd_same] at hu; injection hu with hu; subst hu
        rcases hblk with hblk | hblk
        · rw [hblk] at hb
          refine .inr ⟨fun hst => hst.2 id _ _ hh rfl hxv hb, fun j B' u' hne hB' ho' hu' hb' => ?_⟩
          rw [getH_new, if_neg (Ne.symm hne), getH_new] at hB'
          split at hB'
          · cases hB'
          · rename_i hji
            rw [upd_ne _ _ hne] at hu'
            exact hji (hH.inj id j _ B' _ u' b hh hB' rfl ho' hxv hu' hb hb')
        · exact .inl (hblk b hb))
      (fun B hB hS hsame => by
        rw [getH_new, if_pos rfl] at hB; injection hB with hB; subst hB
        refine ⟨h0, v', xs ++ bs.map fun c => Value.int .u8 (c.toNat : Int), upd_same _ _ _, ⟨(by rw [List.length_append, List.length_map]; exact hown), fun b hb => hblk.elim (fun hblk => h2b b (by rw [← hblk]; exact hb)) (fun hblk => hH.hbase b (hblk b hb))⟩, fun k hk => ?_, fun k j hk hj => ?_⟩
        · rw [eAt_append]
          split
          · rename_i hkl; exact h3 k hkl
          · rename_i hkl; rw [List.length_append] at hk; exact hm _ (by omega)
        · rw [eAt_append]
          have hxl : xs.length = l.length * 1 := h2.1
          split
          · rename_i hkl
            obtain ⟨u, g1, g2, g3⟩ := h4 k j hkl hj
            have hlt2 : k * 1 + j < l.length * 1 := by
              have h5 : (k + 1) * 1 ≤ l.length * 1 := Nat.mul_le_mul_right 1 hkl
              have h6 : (k + 1) * 1 = k * 1 + 1 := Nat.succ_mul k 1
              omega
            exact ⟨u, by rw [List.getElem?_append_left (by omega)]; exact g1, g2.mono hsame hS, g3⟩
          · rename_i hkl
            rw [List.length_append] at hk
            obtain ⟨u, g1, g2⟩ := hrel (k - l.length) j (by omega) hj
            have h5 : (k - l.length) * 1 = k * 1 - l.length * 1 := Nat.sub_mul k l.length 1
            have h6 : l.length * 1 ≤ k * 1 := Nat.mul_le_mul_right 1 (by omega)
            refine ⟨u, ?_, g2.mono hsame hS, ?_⟩
            · rw [List.getElem?_append_right (by omega), hxl, show k * 1 + j - l.length * 1 = (k - l.length) * 1 + j by omega]
              exact g1
            · exact g2.one)
    exact ⟨upd ρ k v', q1, (hE.mono q2 q3 hext).put (Nat.le_of_ble_eq_true hdn) (.own (upd_same _ _ _)), hext, fun j hj => upd_ne _ _ hj⟩

theorem q_sidx {P : Program} {o : Oper} {st : St} {G : List Nat} {T n : Nat} {x y : Operand} {a : ByteArray} {l : List UInt8} {k : IntKind} {m : Int} (ho : o.op = .index T x y) (hx : opE st.env x = some (.lit (.string a))) (ha : a = strB l) (hy : opE st.env y = some (.lit (.int k m)))
    (hm : m = (n : Int)) (hn : n < l.length) (hT : P.underlying T = some .string) : QStep P G o st (.lit (.int .u8 ((l.getD n default).toNat : Int))) := by
  subst ha
  have := q_index_str (P := P) (G := G) ho hx hy hm (by rw [strB_size]; exact hn) hT
  rw [strB_list] at this
  exact this
def u8Z (P : Program) (e : TypeId) : Bool := match P.info? e with | some i => (match i.zero with | some (.int .u8 0) => Nat.beq i.size 1 && Nat.beq i.bytes 1 | _ => false) | none => false
section
variable {P : Program} {o : Oper} {n0 : Nat} {ops : List Oper} {rest : List Oper} {env : List (Nat × V)} {heap : List (Nat × Option Blk)} {next nt : Nat} {Q : St → Prop}
/-- a string's bytes onto a row of the call's own (r) -/
theorem s_appS {x y : Operand} {t u e id d : Nat} {l r : List (List V)} {a : ByteArray} {bs : List UInt8} (hr : l ++ bs.map encB = r) (hby : l.length + bs.length ≤ 140737488355328) (ho : o.op = .call { callee := .builtin .append, args := #[x, y], argTypes := #[t, u] } := by rfl)
    (hx : opE env x = some (.own id) := by rfl) (hh : getH heap id = some (.row e 1 l) := by rfl) (hy : opE env y = some (.lit (.string a)) := by rfl) (ha : a = strB bs := by rfl) (ht : P.underlying t = some (.slice e) := by rfl) (hut : P.underlying u = some .string := by rfl) (hzi : u8Z P e = true := by rfl)
    (hg : guardV env ops o.guard = some true := by rfl) (hd : o.dst = some d := by rfl) (hdn : Nat.blt d nt = true := by rfl) (hn0 : Nat.ble n0 next = true := by rfl)
    (h : RunL P n0 ops.toArray rest ⟨(d, .own next) :: env, (next, some (.row e 1 r)) :: (id, none) :: heap, next + 1, nt⟩ Q) : RunL P n0 ops.toArray (o :: rest) ⟨env, heap, next, nt⟩ Q := by
  subst hr ha
  exact l_g hg (gstep_of_at (Nat.le_of_ble_eq_true hn0) (a_appS (st := { env := env, heap := heap, next := next + 1, nt := nt }) ho hd hdn hx hh hy ht hut hzi hby)) h
theorem s_sidx {T n d : Nat} {x y : Operand} {a : ByteArray} {l : List UInt8} {k : IntKind} {m : Int} (ho : o.op = .index T x y := by rfl) (hx : opE env x = some (.lit (.string a)) := by rfl) (ha : a = strB l := by rfl) (hy : opE env y = some (.lit (.int k m)) := by rfl)
    (hm : m = (n : Int) := by first | exact lit0 | exact lit1 | exact lit2 | exact lit3 | rfl | exact castp (by omega) | exact casts (by omega) | exact (Int.toNat_of_nonneg (by omega)).symm) (hn : n < l.length := by first | omega | (simp only [List.length_cons, List.length_nil]; omega)) (hT : P.underlying T = some .string := by rfl)
    (hg : guardV env ops o.guard = some true := by rfl) (hd : o.dst = some d := by rfl) (hdn : Nat.blt d nt = true := by rfl) (h : RunL P n0 ops.toArray rest ⟨(d, .lit (.int .u8 ((l.getD n default).toNat : Int))) :: env, heap, next, nt⟩ Q) : RunL P n0 ops.toArray (o :: rest) ⟨env, heap, next, nt⟩ Q :=
  x_q hg hd hdn (q_sidx ho hx ha hy hm hn hT) h
end
section
variable {P : Program} {o : Oper} {ops : List Oper} {rest : List Oper} {env : List (Nat × V)} {heap : List (Nat × Option Blk)} {nt b0 k k' : Nat} {W : Nat → Nat → Bool} {Q : St → Prop}
theorem p_sidx {T n d : Nat} {x y : Operand} {a : ByteArray} {l : List UInt8} {kd : IntKind} {m : Int} (ho : o.op = .index T x y := by rfl) (hx : opE (lk (looks ops o) env) x = some (.lit (.string a)) := by rfl) (ha : a = strB l := by rfl) (hy : opE (lk (looks ops o) env) y = some (.lit (.int kd m)) := by rfl)
    (hm : m = (n : Int) := by first | exact lit0 | exact lit1 | exact lit2 | exact lit3 | rfl | exact castp (by omega) | exact casts (by omega) | exact (Int.toNat_of_nonneg (by omega)).symm) (hn : n < l.length := by first | omega | (simp only [List.length_cons, List.length_nil]; omega)) (hT : P.underlying T = some .string := by rfl)
    (hg : guardV (lk (looks ops o) env) ops o.guard = some true := by rfl) (hd : o.dst = some d := by rfl) (hdn : Nat.blt d nt = true := by rfl) (hk : k + 1 = k' := by (simp only [Nat.reduceAdd]; rfl)) (hb' : Nat.ble b0 k = true := by rfl)
    (h : PL P nt b0 ops W k' rest ((d, .lit (.int .u8 ((l.getD n default).toNat : Int))) :: env) heap Q) : PL P nt b0 ops W k (o :: rest) env heap Q :=
  y_q hg hd hdn hb' hk (fun N => q_sidx ho hx ha hy hm hn hT) h
theorem p_bytes {T U e : TypeId} {x : Operand} {a : ByteArray} {l : List UInt8} {d : Nat} (ho : o.op = .convert T U x := by rfl) (hx : opE (lk (looks ops o) env) x = some (.lit (.string a)) := by rfl) (ha : a = strB l := by rfl) (hT : P.underlying T = some .string := by rfl) (hU : P.underlying U = some (.slice e) := by rfl) (he : P.underlying e = some (.int .u8) := by rfl) (h63 : l.length ≤ 140737488355328) (hg : guardV (lk (looks ops o) env) ops o.guard = some true := by rfl) (hd : o.dst = some d := by rfl) (hdn : Nat.blt d nt = true := by rfl) (hk : k + 1 = k' := by (simp only [Nat.reduceAdd]; rfl)) (hb' : Nat.ble b0 k = true := by rfl)
    (h : PL P nt b0 ops W k' rest ((d, .ro (l.map encB)) :: env) heap Q) : PL P nt b0 ops W k (o :: rest) env heap Q := by
  subst ha hk
  refine p_cons (s := ⟨.ro (l.map encB), []⟩) (fun N _ _ => ⟨lk (looks ops o) env, [], fun t x h => lk_spec h, fun id B h => (by cases h), fun id h => (inH_nil h).elim, fam_g hg (fun env' heap' hE hH => ?_)⟩) ?_ hb'
  · have := g_bytes (P := P) (n0 := N) (st := ⟨env', heap', N, nt⟩) ho hd hdn (opE_mono hE hx) hT hU he h63
    rw [hd]
    exact this
  · rw [hd]; exact h
/-- a store into an own row -/
theorem p_set {T : TypeId} {x y : Operand} {id i j e s : Nat} {l r : List (List V)} {vs : List V} {v : V} (hi : i < l.length) (hr : l.set i (setAt j vs (eAt l i)) = r) (ho : o.op = .store T x y := by rfl) (hg : guardV (lk (looks ops o) env) ops o.guard = some true := by rfl) (hd : o.dst = none := by rfl) (hx : opE (lk (looks ops o) env) x = some (.ptr id i s j) := by rfl) (hh : getH heap id = some (.row e s l) := by rfl) (hy : opE (lk (looks ops o) env) y = some v := by rfl)
    (hf : flat v = some vs := by rfl) (hp : vs.all pureV = true := by rfl) (hT : sizeT P T = some vs.length := by rfl) (hl : Nat.ble (j + vs.length) s = true := by rfl) (hk : k + 1 = k' := by (simp only [Nat.reduceAdd]; rfl)) (hb : Nat.ble b0 k = true := by rfl) (hW : W (k - b0) id = true := by rfl) (hv : vis ops W b0 (k - b0) id = true := by kernel_rfl)
    (h : PL P nt b0 ops W k' rest env ((id, some (.row e s r)) :: heap) Q) : PL P nt b0 ops W k (o :: rest) env heap Q := by
  subst hk hr
  refine p_cons (s := ⟨.und, [(id, some (.row e s (l.set i (setAt j vs (eAt l i)))))]⟩) (fun N h1 h2 => ⟨lk (looks ops o) env, [(id, some (.row e s l))], fun t x h => lk_spec h, fun id' B' h' => ?_, fun id' h => .inr ?_, ?_⟩) ?_ hb
  · rw [getH_new] at h'
    split at h'
    · rename_i e; subst e; injection h' with h'; subst h'; exact ⟨hv, hh⟩
    · cases h'
  · rw [inH_one h, ho]; exact ⟨hW, rfl, hv⟩
  · refine fam_g hg (fun env' heap' hE hH => ?_)
    have := g_store_row (P := P) (n0 := N) (st := ⟨env', heap', N, nt⟩) ho hd (opE_mono hE hx) (hH id (.row e s l) (by simp [getH])) hi (opE_mono hE hy) hf hp hT hl
    rw [hd]
    exact this
  · rw [hd]; exact h
theorem p_quo {T yt : TypeId} {x y : Operand} {kd : IntKind} {m n : Int} {d : Nat} (ho : o.op = .binOp .quo T x y yt := by rfl) (hx : opE (lk (looks ops o) env) x = some (.lit (.int kd m)) := by rfl) (hy : opE (lk (looks ops o) env) y = some (.lit (.int kd n)) := by rfl) (hm : 0 ≤ m := by omega) (hn : 0 < n := by omega) (hw : kd.wrap (m / n) = m / n := by first | (rw [IntKind.wrap_i64]; omega) | (rw [IntKind.wrap_u64]; omega) | (rw [IntKind.wrap_u8]; omega)) (hg : guardV (lk (looks ops o) env) ops o.guard = some true := by rfl) (hd : o.dst = some d := by rfl) (hdn : Nat.blt d nt = true := by rfl) (hk : k + 1 = k' := by (simp only [Nat.reduceAdd]; rfl)) (hb' : Nat.ble b0 k = true := by rfl)
    (h : PL P nt b0 ops W k' rest ((d, .lit (.int kd (m / n))) :: env) heap Q) : PL P nt b0 ops W k (o :: rest) env heap Q := by
  refine y_q hg hd hdn hb' hk (fun N => ?_) h
  have := q_quo (P := P) (G := []) (st := ⟨(lk (looks ops o) env), [], N, nt⟩) ho hx hy (by omega)
  rw [Int.tdiv_eq_ediv_of_nonneg hm, hw] at this
  exact this
theorem p_rem {T yt : TypeId} {x y : Operand} {kd : IntKind} {m n : Int} {d : Nat} (ho : o.op = .binOp .rem T x y yt := by rfl) (hx : opE (lk (looks ops o) env) x = some (.lit (.int kd m)) := by rfl) (hy : opE (lk (looks ops o) env) y = some (.lit (.int kd n)) := by rfl) (hm : 0 ≤ m := by omega) (hn : 0 < n := by omega) (hg : guardV (lk (looks ops o) env) ops o.guard = some true := by rfl) (hd : o.dst = some d := by rfl) (hdn : Nat.blt d nt = true := by rfl) (hk : k + 1 = k' := by (simp only [Nat.reduceAdd]; rfl)) (hb' : Nat.ble b0 k = true := by rfl)
    (h : PL P nt b0 ops W k' rest ((d, .lit (.int kd (m % n))) :: env) heap Q) : PL P nt b0 ops W k (o :: rest) env heap Q := by
  refine y_q hg hd hdn hb' hk (fun N => ?_) h
  have := q_rem (P := P) (G := []) (st := ⟨(lk (looks ops o) env), [], N, nt⟩) ho hx hy (by omega)
  rw [Int.tmod_eq_emod_of_nonneg hm] at this
  exact this
theorem p_shr {T yt : TypeId} {x y : Operand} {kd kd2 : IntKind} {m n : Int} {d : Nat} (ho : o.op = .binOp .shr T x y yt := by rfl) (hx : opE (lk (looks ops o) env) x = some (.lit (.int kd m)) := by rfl) (hy : opE (lk (looks ops o) env) y = some (.lit (.int kd2 n)) := by rfl) (hn : 0 ≤ n := by omega) (hg : guardV (lk (looks ops o) env) ops o.guard = some true := by rfl) (hd : o.dst = some d := by rfl) (hdn : Nat.blt d nt = true := by rfl) (hk : k + 1 = k' := by (simp only [Nat.reduceAdd]; rfl)) (hb' : Nat.ble b0 k = true := by rfl)
    (h : PL P nt b0 ops W k' rest ((d, .lit (.int kd (m.fdiv (2 ^ min n.toNat kd.bits)))) :: env) heap Q) : PL P nt b0 ops W k (o :: rest) env heap Q :=
  y_q hg hd hdn hb' hk (fun N => q_shr ho hx hy hn) h
theorem p_shl {T yt : TypeId} {x y : Operand} {kd kd2 : IntKind} {m n : Int} {d : Nat} (ho : o.op = .binOp .shl T x y yt := by rfl) (hx : opE (lk (looks ops o) env) x = some (.lit (.int kd m)) := by rfl) (hy : opE (lk (looks ops o) env) y = some (.lit (.int kd2 n)) := by rfl) (hn : 0 ≤ n := by omega) (hg : guardV (lk (looks ops o) env) ops o.guard = some true := by rfl) (hd : o.dst = some d := by rfl) (hdn : Nat.blt d nt = true := by rfl) (hk : k + 1 = k' := by (simp only [Nat.reduceAdd]; rfl)) (hb' : Nat.ble b0 k = true := by rfl)
    (h : PL P nt b0 ops W k' rest ((d, .lit (.int kd (kd.wrap (m * 2 ^ min n.toNat kd.bits)))) :: env) heap Q) : PL P nt b0 ops W k (o :: rest) env heap Q :=
  y_q hg hd hdn hb' hk (fun N => q_shl ho hx hy hn) h
theorem p_sneq {T yt : TypeId} {x y : Operand} {l m : List UInt8} {d : Nat} (ho : o.op = .binOp .neq T x y yt := by rfl) (hx : opE (lk (looks ops o) env) x = some (.lit (.string (strB l))) := by rfl) (hy : opE (lk (looks ops o) env) y = some (.lit (.string (strB m))) := by rfl) (hg : guardV (lk (looks ops o) env) ops o.guard = some true := by rfl) (hd : o.dst = some d := by rfl) (hdn : Nat.blt d nt = true := by rfl) (hk : k + 1 = k' := by (simp only [Nat.reduceAdd]; rfl)) (hb : Nat.ble b0 k = true := by rfl)
    (ht : ¬ l = m → PL P nt b0 ops W k' rest ((d, .lit (.bool true)) :: env) heap Q) (hf : l = m → PL P nt b0 ops W k' rest ((d, .lit (.bool false)) :: env) heap Q) : PL P nt b0 ops W k (o :: rest) env heap Q := by
  have h := fun N => q_str_neq (P := P) (G := []) (st := ⟨(lk (looks ops o) env), [], N, nt⟩) ho hx hy
  simp only [decide_eq_decide.2 (not_congr (strB_inj (l := l) (m := m)))] at h
  by_cases hp : l = m
  · simp only [decide_eq_false (fun h => h hp : ¬ ¬ l = m)] at h; exact y_q hg hd hdn hb hk h (hf hp)
  · simp only [decide_eq_true hp] at h; exact y_q hg hd hdn hb hk h (ht hp)
end
end Go.Proofs.Ytnbbnedpjfanoaa
