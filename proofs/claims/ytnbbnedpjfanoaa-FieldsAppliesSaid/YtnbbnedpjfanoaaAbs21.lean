/-
  A VALUE CALCULUS OVER THE MODEL, part 21: maps of the call's own (keys: whole numbers or strings); strings added. Plain lemmas, over any program.
-/
import Derived.Test.YtnbbnedpjfanoaaAbs20
import Derived.ChangeMaps5
set_option linter.unusedVariables false
set_option linter.unusedSimpArgs false
set_option linter.unusedVariables false
namespace Go.Proofs.Ytnbbnedpjfanoaa
open Go.RowKit Go.ChangeMaps

def kindD : Option IntKind → TypeDesc
  | some q => .int q
  | none => .string
def kEq : Value → Value → Bool
  | .int _ a, .int _ b => a == b
  | .string a, .string b => a == b
  | _, _ => false
/-- what a map holds at a key -/
def mlook (k : Value) : List (Value × Value) → Option Value
  | [] => none
  | p :: r => bif kEq k p.1 then some p.2 else mlook k r
def mput (k v : Value) : List (Value × Value) → List (Value × Value)
  | [] => [(k, v)]
  | p :: r => bif kEq k p.1 then (k, v) :: r else p :: mput k v r
abbrev kvE (e : MapEntry) : Value × Value := (e.key, e.val)
theorem keyOk_cases {q : Option IntKind} {v : Value} (h : keyOk q v = true) : (∃ k a, q = some k ∧ v = .int k a) ∨ (∃ s, q = none ∧ v = .string s) := by
  cases q with
  | none => cases v <;> simp [keyOk] at h; exact .inr ⟨_, rfl, rfl⟩
  | some q => cases v <;> simp [keyOk] at h; subst h; exact .inl ⟨_, _, rfl, rfl⟩
theorem sameNow_ok {q : Option IntKind} {k p : Value} (hk : keyOk q k = true) (hp : keyOk q p = true) : Instr.sameNow (kindD q) k p = some (kEq k p) := by
  rcases keyOk_cases hk with ⟨k1, a, rfl, rfl⟩ | ⟨s, rfl, rfl⟩
  · rcases keyOk_cases hp with ⟨k2, b, e, rfl⟩ | ⟨s, e, _⟩
    · injection e with e; subst e
      simp [Instr.sameNow, kindD, kEq]
    · cases e
  · rcases keyOk_cases hp with ⟨k2, b, e, rfl⟩ | ⟨t, _, rfl⟩
    · cases e
    · simp [Instr.sameNow, kindD, kEq]
theorem kEq_same {q : Option IntKind} {k p : Value} (hk : keyOk q k = true) (hp : keyOk q p = true) (h : kEq k p = true) : p = k := by
  rcases keyOk_cases hk with ⟨k1, a, rfl, rfl⟩ | ⟨s, rfl, rfl⟩
  · rcases keyOk_cases hp with ⟨k2, b, e, rfl⟩ | ⟨s, e, _⟩
    · injection e with e; subst e
      simp only [kEq, beq_iff_eq] at h
      rw [h]
    · cases e
  · rcases keyOk_cases hp with ⟨k2, b, e, rfl⟩ | ⟨t, _, rfl⟩
    · cases e
    · simp only [kEq, MapKept.bytes_beq] at h
      rw [h]
theorem sameBits_refl {q : Option IntKind} {k : Value} (hk : keyOk q k = true) : Instr.sameBits 10000 k k = true := by
  rcases keyOk_cases hk with ⟨k1, a, rfl, rfl⟩ | ⟨s, rfl, rfl⟩
  · simp [Instr.sameBits]
  · simp [Instr.sameBits, (MapKept.bytes_beq s s).2 rfl]
theorem findNow_ok {q : Option IntKind} {k v : Value} (hk : keyOk q k = true) : ∀ (mes : List MapEntry) (i : Nat), (∀ e, e ∈ mes → keyOk q e.key = true) →
    (mlook k (mes.map kvE) = none ∧ Instr.findNow (kindD q) k mes i = some none ∧ mput k v (mes.map kvE) = mes.map kvE ++ [(k, v)]) ∨
    ∃ n x e, mes[n]? = some e ∧ e.key = k ∧ mlook k (mes.map kvE) = some x ∧ Instr.findNow (kindD q) k mes i = some (some (i + n, x)) ∧ (mes.modify n fun e => { e with key := k, val := v }).map kvE = mput k v (mes.map kvE)
  | [], i, _ => .inl ⟨rfl, rfl, rfl⟩
  | e :: mes, i, h => by
    have he := sameNow_ok hk (h e List.mem_cons_self)
    cases hb : kEq k e.key with
    | true =>
      refine .inr ⟨0, e.val, e, rfl, kEq_same hk (h e List.mem_cons_self) hb, ?_, ?_, ?_⟩
      · simp only [List.map_cons, mlook, hb, cond_true]
      · simp only [Instr.findNow, he, hb]
        rfl
      · simp only [List.map_cons, mput, hb, cond_true]
        rfl
    | false =>
      rcases findNow_ok (v := v) hk mes (i + 1) (fun e h' => h e (List.mem_cons_of_mem _ h')) with ⟨h1, h2, h3⟩ | ⟨n, x, e', h1, h2, h3, h4, h5⟩
      · refine .inl ⟨?_, ?_, ?_⟩
        · simp only [List.map_cons, mlook, hb, cond_false]; exact h1
        · simp only [Instr.findNow, he, hb]; exact h2
        · simp only [List.map_cons, mput, hb, cond_false, h3, List.cons_append]
      · refine .inr ⟨n + 1, x, e', by simpa using h1, h2, ?_, ?_, ?_⟩
        · simp only [List.map_cons, mlook, hb, cond_false]; exact h3
        · simp only [Instr.findNow, he, hb]; rw [h4]; congr 3; omega
        · simp only [List.map_cons, mput, hb, cond_false, List.modify_succ_cons]
          rw [h5]
theorem mput_keys {q : Option IntKind} {k v : Value} (hk : keyOk q k = true) (hv : v.oneCell' = true) : ∀ (es : List (Value × Value)), (∀ p, p ∈ es → keyOk q p.1 = true ∧ p.2.oneCell' = true) → ∀ p, p ∈ mput k v es → keyOk q p.1 = true ∧ p.2.oneCell' = true
  | [], _, p, hp => by
    simp only [mput, List.mem_singleton] at hp
    subst hp; exact ⟨hk, hv⟩
  | e :: es, h, p, hp => by
    simp only [mput] at hp
    cases hb : kEq k e.1 with
    | true =>
      rw [hb] at hp
      rcases List.mem_cons.1 hp with rfl | hp
      · exact ⟨hk, hv⟩
      · exact h p (List.mem_cons_of_mem _ hp)
    | false =>
      rw [hb] at hp
      rcases List.mem_cons.1 hp with rfl | hp
      · exact h _ List.mem_cons_self
      · exact mput_keys hk hv es (fun p hp => h p (List.mem_cons_of_mem _ hp)) p hp
theorem run_checkKey {P : Program} {q : Option IntKind} {kt : TypeId} {k : Value} {b : Bool} (hkt : P.underlying kt = some (kindD q)) (hk : keyOk q k = true) (w : World) : (Instr.checkKey b 10000 kt k).run P w = .ok () w := by
  unfold Instr.checkKey
  simp only [Sem.run_bind, run_underlying hkt]
  rcases keyOk_cases hk with ⟨k1, a, rfl, rfl⟩ | ⟨s, rfl, rfl⟩ <;> rfl
section
variable {P : Program} {o : Oper} {n0 : Nat} {st : St} {G : List Nat}
theorem run_look {T kt et : TypeId} {q : Option IntKind} {b clock : Nat} {mes : Array MapEntry} {k z : Value} {ok : Bool} {w : World} (hT : P.underlying T = some (.map kt et)) (hkt : P.underlying kt = some (kindD q)) (h : w.heap[b]? = some (.map mes clock)) (hk : keyOk q k = true)
    (hes : ∀ e, e ∈ mes.toList → keyOk q e.key = true) (hz : (zeroValue et).run P w = .ok z w) :
    (Instr.lookup T (.map (some b)) k ok).run P w = .ok (if ok then .tuple #[(mlook k (mes.toList.map kvE)).getD z, .bool (mlook k (mes.toList.map kvE)).isSome] else (mlook k (mes.toList.map kvE)).getD z) w := by
  rcases findNow_ok (v := k) hk mes.toList 0 hes with ⟨h1, h2, _⟩ | ⟨n, x, e, _, _, h1, h2, _⟩
  · cases ok <;> simp [Instr.lookup, Instr.findKey, run_underlying hT, run_underlying hkt, MapKept.run_getObj_map h, run_checkKey hkt hk, h1, h2, hz, Sem.run_bind, Sem.run_pure, Result.andThen]
  · cases ok <;> simp [Instr.lookup, Instr.findKey, run_underlying hT, run_underlying hkt, MapKept.run_getObj_map h, run_checkKey hkt hk, h1, h2, hz, Sem.run_bind, Sem.run_pure, Result.andThen]
theorem run_mput {T kt et : TypeId} {q : Option IntKind} {b clock : Nat} {mes : Array MapEntry} {k v : Value} {w : World} (hT : P.underlying T = some (.map kt et)) (hkt : P.underlying kt = some (kindD q)) (h : w.heap[b]? = some (.map mes clock)) (hk : keyOk q k = true)
    (hes : ∀ e, e ∈ mes.toList → keyOk q e.key = true) :
    ∃ mes' clock', (Instr.mapUpdate T (.map (some b)) k v).run P w = .ok () (setBlock w b (.map mes' clock')) ∧ mes'.toList.map kvE = mput k v (mes.toList.map kvE) := by
  rcases findNow_ok (v := v) hk mes.toList 0 hes with ⟨h1, h2, h3⟩ | ⟨n, x, e, g1, g2, h1, h2, h3⟩
  · refine ⟨mes.push { key := k, val := v, born := clock }, clock + 1, ?_, ?_⟩
    · simp [Instr.mapUpdate, Instr.findKey, run_underlying hT, run_underlying hkt, MapKept.run_getObj_map h, run_checkKey hkt hk, h1, h2, Sem.run_bind, Sem.run_pure, Result.andThen, MapKept.run_setObj_map _ h, setBlock]
    · rw [h3]; simp
  · have g3 : mes[n]? = some e := by rw [← Array.getElem?_toList]; exact g1
    refine ⟨mes.modify n fun e => { e with key := k, val := v }, clock, ?_, ?_⟩
    · simp [Instr.mapUpdate, Instr.findKey, Instr.keyThatStays, run_underlying hT, run_underlying hkt, MapKept.run_getObj_map h, run_checkKey hkt hk, h1, h2, g3, g2, sameBits_refl hk, Sem.run_bind, Sem.run_pure, Result.andThen, MapKept.run_setObj_map _ h, setBlock]
    · rw [Array.toList_modify]; exact h3
theorem a_makeMap {k T kt et d : Nat} (q : Option IntKind) (ho : o.op = .makeMap T none) (hd : o.dst = some d) (hdn : Nat.blt d st.nt = true) : GAt P k o st (st.newAt k d (.own k) (.map q [])) := fun F base w0 ρ a w hH hE hnn hk => by
  refine wp_of_value (u := .map (some w.heap.size)) (w' := w.alloc (.map #[] 0)) ?_ ?_
  · unfold execOp; rw [ho]
    simp [Instr.makeMap, newObj, go_sem]
    rfl
  · rw [hd]
    refine next_new hH hE hnn hk (below_alloc _ _) (fun _ b hb => by simp only [blockOf, Option.some.injEq] at hb; omega) (Nat.le_of_ble_eq_true hdn) rfl (fun S hS _ hsame => ?_) (fun S => .own (upd_same _ _ _))
    exact ⟨w.heap.size, #[], 0, upd_same _ _ _, hH.hbase _ (Nat.le_refl _), heap_alloc_new _ _, rfl, fun p hp => by cases hp⟩
theorem isMapOp_run {T : TypeId} {m x y : Operand} (ho : o.op = .insert T m x y ∨ o.op = .mapUpdate T m x y) (a : Act) (w w' : World) (h : (Instr.mapUpdate T (a.eval m) (a.eval x) (a.eval y)).run P w = .ok () w') : (execOp a.eval o).run P w = .ok .skip w' := by
  rcases ho with ho | ho <;> (unfold execOp; rw [ho]; simp only [Sem.run_bind, h]; rfl)
theorem g_insert {T kt et id : TypeId} {m x y : Operand} {q : Option IntKind} {k v : Value} {es : List (Value × Value)} (ho : o.op = .insert T m x y ∨ o.op = .mapUpdate T m x y) (hd : o.dst = none) (hm : opE st.env m = some (.own id)) (hh : getH st.heap id = some (.map q es))
    (hx : opE st.env x = some (.lit k)) (hy : opE st.env y = some (.lit v)) (hT : P.underlying T = some (.map kt et)) (hkt : P.underlying kt = some (kindD q)) (hk : keyOk q k = true) :
    GStep P n0 o st { st with heap := (id, some (.map q (mput k v es))) :: st.heap } := fun F base w0 ρ a w hH hE => by
  have h1 := own_inv (opE_sound hE hm)
  obtain ⟨b, mes, clock, e1, e2, e3, e4, e5⟩ := hH.blk _ _ hh
  rw [h1] at e1; injection e1 with e1
  have hv1 := lit_one (opE_sound hE hy)
  obtain ⟨mes', clock', hrun, hput⟩ := run_mput (P := P) (w := w) (v := v) hT hkt e3 hk (fun e he => by
    have := (e5 (kvE e) (by rw [← e4]; exact List.mem_map.2 ⟨e, he, rfl⟩)).1
    exact this)
  have hns : ¬ Stab F ρ st.heap b := fun hs => hs.2 id _ _ hh rfl (by rw [h1, e1]) rfl
  refine wp_of_skip (w' := setBlock w b (.map mes' clock')) ?_ ?_
  · refine isMapOp_run ho a w _ ?_
    rw [e1, lit_inv (opE_sound hE hx), lit_inv (opE_sound hE hy)]
    exact hrun
  · rw [hd]
    have hg : w.grownBy (setBlock w b (.map mes' clock')) (some b) := ⟨rfl, rfl, rfl, by simp [setBlock], fun i _ hi => heap_setBlock_other e3 _ (fun e => hi (by rw [e]))⟩
    obtain ⟨q1, q2, q3⟩ := hH.step (ρ' := ρ) (heap' := (id, some (.map q (mput k v es))) :: st.heap) (next' := st.next) id (some b) hg
      (fun k hk => by injection hk with hk; subst hk; exact ⟨e2, hns⟩) (fun _ _ h => h) (fun id u h => hH.sup id u h)
      (fun i B hne hB => by
        rw [getH_new, if_neg (Ne.symm hne)] at hB
        refine ⟨hB, ?_⟩
        obtain ⟨u, hu⟩ := hH.some_of hB
        exact ⟨u, hu, fun ho b' hb e => by injection e with e; subst e; exact hne (hH.inj i id B _ u _ b hB hh ho rfl hu (by rw [h1, e1]) hb rfl)⟩)
      (fun B u b' hB ho hu hb => by
        rw [h1, e1] at hu; injection hu with hu; subst hu
        simp only [blockOf, Option.some.injEq] at hb; subst hb
        refine .inr ⟨hns, fun i B' u' hne hB' ho' hu' hb' => ?_⟩
        rw [getH_new, if_neg (Ne.symm hne)] at hB'
        exact hne (hH.inj i id B' _ u' _ b hB' hh ho' rfl hu' (by rw [h1, e1]) hb' rfl))
      (fun B hB hS hsame => by
        rw [getH_new, if_pos rfl] at hB; injection hB with hB; subst hB
        exact ⟨b, mes', clock', by rw [h1, e1], e2, heap_setBlock_same e3 _, by rw [hput, e4], mput_keys hk hv1 es e5⟩)
    exact ⟨ρ, q1, hE.mono q2 q3 (fun _ _ h => h), fun _ _ h => h, fun _ _ => rfl⟩
theorem mlook_one {q : Option IntKind} {k x : Value} : ∀ {es : List (Value × Value)}, (∀ p, p ∈ es → keyOk q p.1 = true ∧ p.2.oneCell' = true) → mlook k es = some x → x.oneCell' = true
  | [], _, h => by cases h
  | e :: es, h5, h => by
    simp only [mlook] at h
    cases hb : kEq k e.1 with
    | true => rw [hb] at h; injection h with h; subst h; exact (h5 _ List.mem_cons_self).2
    | false => rw [hb] at h; exact mlook_one (fun p hp => h5 p (List.mem_cons_of_mem _ hp)) h
/-- a zero value of one cell -/
def zero1 (P : Program) (T : TypeId) : Option Value :=
  match P.info? T with
  | some i => match i.zero with
    | some z => bif z.oneCell' then some z else none
    | none => none
  | none => none
theorem zero1_spec {T : TypeId} {z : Value} (h : zero1 P T = some z) : z.oneCell' = true ∧ ∀ w, (zeroValue T).run P w = .ok z w := by
  unfold zero1 at h
  cases hi : P.info? T with
  | none => rw [hi] at h; cases h
  | some i =>
    rw [hi] at h
    simp only at h
    cases hz : i.zero with
    | none => rw [hz] at h; cases h
    | some y =>
      rw [hz] at h
      simp only at h
      cases hb : y.oneCell' with
      | false => rw [hb] at h; cases h
      | true =>
        rw [hb] at h
        injection h with h; subst h
        exact ⟨hb, fun w => by simp [zeroValue, typeInfo, hi, hz, Sem.run_bind, Sem.run_pure, program, Sem.run]⟩
/-- what a map holds -/
theorem q_look {T kt et id : TypeId} {m x : Operand} {q : Option IntKind} {k z : Value} {ok : Bool} {es : List (Value × Value)} (ho : o.op = .lookup T m x ok) (hm : opE st.env m = some (.own id)) (hh : getH st.heap id = some (.map q es)) (hG : notIn id G = true)
    (hx : opE st.env x = some (.lit k)) (hT : P.underlying T = some (.map kt et)) (hkt : P.underlying kt = some (kindD q)) (hk : keyOk q k = true) (hz : zero1 P et = some z) :
    QStep P G o st (if ok then .tup [.lit ((mlook k es).getD z), .lit (.bool (mlook k es).isSome)] else .lit ((mlook k es).getD z)) := fun F base w0 ρ a w hH hE hL => by
  have h1 := own_inv (opE_sound hE hm)
  obtain ⟨b, mes, clock, e1, e2, e3, e4, e5⟩ := hH.blk _ _ hh
  obtain ⟨hzo, z3⟩ := zero1_spec hz
  have hr : ∀ w', Ext (GB ρ G) w w' → (Instr.lookup T (a.eval m) (a.eval x) ok).run P w' = .ok (if ok then .tuple #[(mlook k es).getD z, .bool (mlook k es).isSome] else (mlook k es).getD z) w' := fun w' hw' => by
    have e3' : w'.heap[b]? = some (.map mes clock) := by
      rw [hw'.block b (Array.getElem?_eq_some_iff.1 e3).1 (own_notGB hH hL hG hh rfl e1 rfl)]; exact e3
    rw [h1] at e1; injection e1 with e1
    rw [e1, lit_inv (opE_sound hE hx)]
    have := run_look (P := P) (ok := ok) hT hkt e3' hk (fun e he => (e5 (kvE e) (by rw [← e4]; exact List.mem_map.2 ⟨e, he, rfl⟩)).1) (z3 w')
    rw [e4] at this
    exact this
  have hvo : ((mlook k es).getD z).oneCell' = true := by
    cases hc : mlook k es with
    | none => exact hzo
    | some x => exact mlook_one e5 hc
  refine ⟨if ok then .tuple #[(mlook k es).getD z, .bool (mlook k es).isSome] else (mlook k es).getD z, ?_, fun w' hw' => ?_⟩
  · cases ok
    · exact .pure (.lit _ hvo)
    · refine .tup rfl (fun j hj => ?_)
      match j, hj with
      | 0, _ => exact .pure (.lit _ hvo)
      | 1, _ => exact .pure (.lit _ rfl)
  · unfold execOp; rw [ho]; simp only [Sem.run_bind, hr w' hw']; rfl
/-- whose keys -/
def keyQ : TypeDesc → Option (Option IntKind)
  | .int q => some (some q)
  | .string => some none
  | _ => none
def mapQ (P : Program) (T : TypeId) : Option (Option IntKind × TypeId) :=
  match P.underlying T with
  | some (.map kt et) => match P.underlying kt with
    | some d => match keyQ d with
      | some q => some (q, et)
      | none => none
    | none => none
  | _ => none
theorem mapQ_spec {T : TypeId} {q : Option IntKind} {et : TypeId} (h : mapQ P T = some (q, et)) : ∃ kt, P.underlying T = some (.map kt et) ∧ P.underlying kt = some (kindD q) := by
  unfold mapQ at h
  split at h
  · rename_i kt et' hT
    split at h
    · rename_i d hd
      split at h
      · rename_i q' hq
        injection h with h
        injection h with h1 h2
        subst h1 h2
        refine ⟨kt, hT, ?_⟩
        rw [hd]
        cases d <;> simp [keyQ] at hq <;> subst hq <;> rfl
      · cases h
    · cases h
  · cases h
section
variable {ops : List Oper} {rest : List Oper} {env : List (Nat × V)} {heap : List (Nat × Option Blk)} {next nt : Nat} {Q : St → Prop}
theorem s_makeMap {T et d : Nat} {q : Option IntKind} (ho : o.op = .makeMap T none := by rfl) (hq : mapQ P T = some (q, et) := by rfl) (hg : guardV env ops o.guard = some true := by rfl) (hd : o.dst = some d := by rfl) (hdn : Nat.blt d nt = true := by rfl) (hn0 : Nat.ble n0 next = true := by rfl)
    (h : RunL P n0 ops.toArray rest ⟨(d, .own next) :: env, (next, some (.map q [])) :: heap, next + 1, nt⟩ Q) : RunL P n0 ops.toArray (o :: rest) ⟨env, heap, next, nt⟩ Q :=
  l_g hg (gstep_of_at (Nat.le_of_ble_eq_true hn0) (a_makeMap (kt := 0) (et := 0) (T := T) (st := { env := env, heap := heap, next := next + 1, nt := nt }) q ho hd hdn)) h
theorem s_insert {T et id : Nat} {m x y : Operand} {q : Option IntKind} {k v : Value} {es : List (Value × Value)} (ho : o.op = .insert T m x y ∨ o.op = .mapUpdate T m x y := by first | exact .inl rfl | exact .inr rfl) (hd : o.dst = none := by rfl) (hm : opE env m = some (.own id) := by rfl) (hh : getH heap id = some (.map q es) := by rfl)
    (hx : opE env x = some (.lit k) := by rfl) (hy : opE env y = some (.lit v) := by rfl) (hq : mapQ P T = some (q, et) := by rfl) (hk : keyOk q k = true := by rfl) (hg : guardV env ops o.guard = some true := by rfl)
    (h : RunL P n0 ops.toArray rest ⟨env, (id, some (.map q (mput k v es))) :: heap, next, nt⟩ Q) : RunL P n0 ops.toArray (o :: rest) ⟨env, heap, next, nt⟩ Q := by
  obtain ⟨kt, h1, h2⟩ := mapQ_spec hq
  exact l_g hg (g_insert (st := ⟨env, heap, next, nt⟩) ho hd hm hh hx hy h1 h2 hk) h
/-- what a map holds at a key (r; its zero when nothing) -/
theorem s_look {T et id d : Nat} {m x : Operand} {q : Option IntKind} {k z r : Value} {es : List (Value × Value)} (hr : (mlook k es).getD z = r) (ho : o.op = .lookup T m x false := by rfl) (hm : opE env m = some (.own id) := by rfl) (hh : getH heap id = some (.map q es) := by rfl)
    (hx : opE env x = some (.lit k) := by rfl) (hq : mapQ P T = some (q, et) := by rfl) (hk : keyOk q k = true := by rfl) (hz : zero1 P et = some z := by rfl) (hg : guardV env ops o.guard = some true := by rfl) (hd : o.dst = some d := by rfl) (hdn : Nat.blt d nt = true := by rfl)
    (h : RunL P n0 ops.toArray rest ⟨(d, .lit r) :: env, heap, next, nt⟩ Q) : RunL P n0 ops.toArray (o :: rest) ⟨env, heap, next, nt⟩ Q := by
  obtain ⟨kt, h1, h2⟩ := mapQ_spec hq
  subst hr
  exact x_q hg hd hdn (by simpa using q_look (st := ⟨env, heap, next, nt⟩) (G := []) ho hm hh rfl hx h1 h2 hk hz) h
/-- the same, with whether there is something -/
theorem s_look2 {T et id d : Nat} {m x : Operand} {q : Option IntKind} {k z r : Value} {b : Bool} {es : List (Value × Value)} (hr : (mlook k es).getD z = r) (hb : (mlook k es).isSome = b) (ho : o.op = .lookup T m x true := by rfl) (hm : opE env m = some (.own id) := by rfl) (hh : getH heap id = some (.map q es) := by rfl)
    (hx : opE env x = some (.lit k) := by rfl) (hq : mapQ P T = some (q, et) := by rfl) (hk : keyOk q k = true := by rfl) (hz : zero1 P et = some z := by rfl) (hg : guardV env ops o.guard = some true := by rfl) (hd : o.dst = some d := by rfl) (hdn : Nat.blt d nt = true := by rfl)
    (h : RunL P n0 ops.toArray rest ⟨(d, .tup [.lit r, .lit (.bool b)]) :: env, heap, next, nt⟩ Q) : RunL P n0 ops.toArray (o :: rest) ⟨env, heap, next, nt⟩ Q := by
  obtain ⟨kt, h1, h2⟩ := mapQ_spec hq
  subst hr hb
  exact x_q hg hd hdn (by simpa using q_look (st := ⟨env, heap, next, nt⟩) (G := []) ho hm hh rfl hx h1 h2 hk hz) h
theorem strB_sum {l m : List UInt8} (h : l.length + m.length ≤ 9223372036854775807) : (strB l).size + (strB m).size ≤ 9223372036854775807 := by rw [strB_size, strB_size]; exact h
/-- strings added -/
theorem s_sadd {T yt d : Nat} {x y : Operand} {a b : ByteArray} {l m r : List UInt8} (hr : l ++ m = r) (hn : l.length + m.length ≤ 9223372036854775807) (ho : o.op = .binOp .add T x y yt := by rfl) (hx : opE env x = some (.lit (.string a)) := by rfl) (hy : opE env y = some (.lit (.string b)) := by rfl) (ha : a = strB l := by rfl) (hb : b = strB m := by rfl)
    (hg : guardV env ops o.guard = some true := by rfl) (hd : o.dst = some d := by rfl) (hdn : Nat.blt d nt = true := by rfl)
    (h : RunL P n0 ops.toArray rest ⟨(d, .lit (.string (strB r))) :: env, heap, next, nt⟩ Q) : RunL P n0 ops.toArray (o :: rest) ⟨env, heap, next, nt⟩ Q := by
  subst hr ha hb
  refine x_q hg hd hdn ?_ h
  rw [← strB_append]
  exact q_str_add ho hx hy (strB_sum hn)
end
section
variable {ops : List Oper} {rest : List Oper} {env : List (Nat × V)} {heap : List (Nat × Option Blk)} {nt b0 k k' : Nat} {W : Nat → Nat → Bool} {Q : St → Prop}
theorem p_sadd {T yt d : Nat} {x y : Operand} {a b : ByteArray} {l m r : List UInt8} (hr : l ++ m = r) (hn : l.length + m.length ≤ 9223372036854775807) (ho : o.op = .binOp .add T x y yt := by rfl) (hx : opE (lk (looks ops o) env) x = some (.lit (.string a)) := by rfl) (hy : opE (lk (looks ops o) env) y = some (.lit (.string b)) := by rfl) (ha : a = strB l := by rfl) (hb : b = strB m := by rfl)
    (hg : guardV (lk (looks ops o) env) ops o.guard = some true := by rfl) (hd : o.dst = some d := by rfl) (hdn : Nat.blt d nt = true := by rfl) (hk : k + 1 = k' := by (simp only [Nat.reduceAdd]; rfl)) (hb' : Nat.ble b0 k = true := by rfl)
    (h : PL P nt b0 ops W k' rest ((d, .lit (.string (strB r))) :: env) heap Q) : PL P nt b0 ops W k (o :: rest) env heap Q := by
  subst hr ha hb
  refine y_q hg hd hdn hb' hk (fun N => ?_) h
  rw [← strB_append]
  exact q_str_add ho hx hy (strB_sum hn)
end
end
end Go.Proofs.Ytnbbnedpjfanoaa
