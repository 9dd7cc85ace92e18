/-
  A VALUE CALCULUS OVER THE MODEL, part 30: maps that nobody writes any more, and loops over them. Plain lemmas, over any program.
-/
import Derived.Test.YtfdomanbdfekhaaAbsC
import Derived.Maps.RangeRun
set_option linter.unusedVariables false
set_option linter.unusedSimpArgs false
set_option linter.unusedVariables false
namespace Go.Proofs.Ytfdomanbdfekhaa
open Go.RowKit Go.ChangeMaps
section
variable {P : Program} {o : Oper} {n0 : Nat} {st : St} {G : List Nat}
/-- a map is written no more -/
theorem less_fmap {id : Nat} {q : Option IntKind} {es : List (Value × Value)} (hh : getH st.heap id = some (.map q es)) : Less P n0 st { st with heap := (id, some (.fmap q es)) :: st.heap } := fun F base w0 ρ a w hH hE => by
  obtain ⟨b, mes, clock, h1, h2, h3, h4, h5, h6⟩ := hH.blk _ _ hh
  have hS : ∀ b, Stab F ρ st.heap b → Stab F ρ ((id, some (.fmap q es)) :: st.heap) b := fun b h => ⟨h.1, fun j B u hB ho hu => by
    rw [getH_new] at hB
    split at hB
    · injection hB with hB; subst hB; cases ho
    · exact h.2 j B u hB ho hu⟩
  have hSo : Stab F ρ ((id, some (.fmap q es)) :: st.heap) b := by
    have hob := hH.owned hh rfl h1 (b := b) rfl
    refine ⟨hH.hF b hob.1, fun j B u hB ho hu hub => ?_⟩
    rw [getH_new] at hB
    split at hB
    · injection hB with hB; subst hB; cases ho
    · rename_i hji
      exact hji (hH.inj id j _ B _ u b hh hB rfl ho h1 hu rfl hub)
  refine ⟨ρ, ⟨⟨hH.below, hH.hbase, hH.sup, fun i j B B' u u' b hB hB' ho ho' hu hu' hb hb' => ?_, fun j B hB => ?_⟩, hH.hF⟩, hE.mono (Same.refl _ _) (fun b h _ => hS b h) (fun _ _ h => h), fun _ _ => rfl⟩
  · rw [getH_new] at hB hB'
    split at hB
    · injection hB with hB; subst hB; cases ho
    · split at hB'
      · injection hB' with hB'; subst hB'; cases ho'
      · exact hH.inj i j B B' u u' b hB hB' ho ho' hu hu' hb hb'
  · rw [getH_new] at hB
    split at hB
    · rename_i e; subst e
      injection hB with hB; subst hB
      exact ⟨b, mes, clock, h1, hSo, h3, h4, h5, h6⟩
    · exact (hH.blk j B hB).mono (Same.refl _ _) (fun b h _ => hS b h) (fun _ _ h => h) (fun _ _ _ _ _ _ => rfl)
/-- what such a map holds -/
theorem q_lookF {T kt et id : TypeId} {m x : Operand} {q : Option IntKind} {k z : Value} {ok : Bool} {es : List (Value × Value)} (ho : o.op = .lookup T m x ok) (hm : opE st.env m = some (.own id)) (hh : getH st.heap id = some (.fmap q es))
    (hx : opE st.env x = some (.lit k)) (hT : P.underlying T = some (.map kt et)) (hkt : P.underlying kt = some (kindD q)) (hk : keyOk q k = true) (hz : zero1 P et = some z) :
    QStep P G o st (if ok then .tup [.lit ((mlook k es).getD z), .lit (.bool (mlook k es).isSome)] else .lit ((mlook k es).getD z)) := fun F base w0 ρ a w hH hE hL => by
  have h1 := own_inv (opE_sound hE hm)
  obtain ⟨b, mes, clock, e1, e2, e3, e4, e5, _⟩ := hH.blk _ _ hh
  obtain ⟨hzo, z3⟩ := zero1_spec hz
  have hr : ∀ w', Ext (GB ρ G) w w' → (Instr.lookup T (a.eval m) (a.eval x) ok).run P w' = .ok (if ok then .tuple #[(mlook k es).getD z, .bool (mlook k es).isSome] else (mlook k es).getD z) w' := fun w' hw' => by
    have e3' : w'.heap[b]? = some (.map mes clock) := by
      rw [hw'.block b (Array.getElem?_eq_some_iff.1 e3).1 (stab_notGB hL e2)]; exact e3
    rw [h1] at e1; injection e1 with e1
    rw [e1, lit_inv (opE_sound hE hx)]
    have := run_look (P := P) (ok := ok) hT hkt e3' hk (fun e he => (e5 (kvE e) (by rw [← e4]; exact List.mem_map.2 ⟨e, he, rfl⟩)).1) (z3 w')
    rw [e4] at this
    exact this
  have hvo : ((mlook k es).getD z).oneCell' = true := by
    cases hc : mlook k es with
    | none => exact hzo
    | some x => exact mlook_one e5 hc
  refine ⟨if ok then .tuple #[(mlook k es).getD z, .bool (mlook k es).isSome] else (mlook k es).getD z, ?_, fun w' hw' => ?_⟩
  · cases ok
    · exact .pure (.lit _ hvo)
    · refine .tup rfl (fun j hj => ?_)
      match j, hj with
      | 0, _ => exact .pure (.lit _ hvo)
      | 1, _ => exact .pure (.lit _ rfl)
  · unfold execOp; rw [ho]; simp only [Sem.run_bind, hr w' hw']; rfl
theorem keyOk_one {q : Option IntKind} {v : Value} (h : keyOk q v = true) : v.oneCell' = true := by
  rcases keyOk_cases h with ⟨k, a, _, rfl⟩ | ⟨s, _, rfl⟩ <;> rfl
theorem leftOf_nil (mes : Array MapEntry) : leftOf mes #[] = mes := by unfold leftOf; simp
/-- a loop over such a map begins -/
theorem a_rangeMap {k T kt et id d : Nat} {x : Operand} {q : Option IntKind} {es : List (Value × Value)} (ho : o.op = .range T x) (hx : opE st.env x = some (.own id)) (hh : getH st.heap id = some (.fmap q es)) (hT : P.underlying T = some (.map kt et)) (hd : o.dst = some d) (hdn : Nat.blt d st.nt = true) :
    GAt P k o st (st.newAt k d (.own k) (.iter es none)) := fun F base w0 ρ a w hH hE hnn hk => by
  have h1 := own_inv (opE_sound hE hx)
  obtain ⟨b, mes, clock, e1, e2, e3, e4, e5, e6⟩ := hH.blk _ _ hh
  rw [h1] at e1; injection e1 with e1
  have hlt := (Array.getElem?_eq_some_iff.1 e3).1
  refine wp_of_value (u := .pointer (some ⟨w.heap.size, 0, none⟩)) (w' := w.alloc (.mapIter (some b) clock #[] clock)) ?_ ?_
  · unfold execOp; rw [ho]
    simp only [Sem.run_bind, e1, run_range_map w T kt et b mes clock hT e3]; rfl
  · rw [hd]
    refine next_new hH hE hnn hk (below_alloc _ _) (fun _ b hb => by simp only [blockOf, Option.some.injEq] at hb; omega) (Nat.le_of_ble_eq_true hdn) rfl (fun S hS _ hsame => ?_) (fun S => .own (upd_same _ _ _))
    refine ⟨w.heap.size, b, mes, clock, clock, #[], clock, upd_same _ _ _, hH.hbase _ (Nat.le_refl _), heap_alloc_new _ _, hS b e2 hlt, by rw [hsame b e2 hlt]; exact e3, e6, e6.2, Nat.le_refl _, Nat.le_refl _, by rw [leftOf_nil]; exact e4, fun e he => ?_, fun kv h => by cases h⟩
    have := e5 (kvE e) (by rw [← e4]; exact List.mem_map.2 ⟨e, he, rfl⟩)
    exact ⟨keyOk_one this.1, this.2⟩
theorem filter_born : ∀ {l : List MapEntry} (i : Nat) (hi : i < l.length), (l.map (·.born)).Nodup → l.filter (fun x => !(x.born == l[i].born)) = l.eraseIdx i
  | [], i, hi, _ => by simp at hi
  | e :: l, 0, _, h => by
    simp only [List.map_cons, List.nodup_cons] at h
    simp only [List.getElem_cons_zero, List.filter_cons, beq_self_eq_true, Bool.not_true, Bool.false_eq_true, if_false, List.eraseIdx_zero, List.tail_cons]
    rw [List.filter_eq_self]
    intro x hx
    have : x.born ≠ e.born := fun hb => h.1 (List.mem_map.2 ⟨x, hx, hb⟩)
    simpa using this
  | e :: l, i + 1, hi, h => by
    simp only [List.map_cons, List.nodup_cons] at h
    have hi' : i < l.length := by simpa using hi
    have hne : e.born ≠ l[i].born := fun hb => h.1 (List.mem_map.2 ⟨l[i], List.getElem_mem hi', hb.symm⟩)
    have ih := filter_born i hi' h.2
    simp only [List.getElem_cons_succ, List.filter_cons, List.eraseIdx_cons_succ]
    rw [if_pos (by simpa using hne), ih]
theorem leftOf_push {mes : Array MapEntry} {seen : Array Nat} {clock : Nat} (hb : Births mes clock) {i : Nat} (hi : i < (leftOf mes seen).toList.length) : (leftOf mes (seen.push (leftOf mes seen).toList[i].born)).toList = (leftOf mes seen).toList.eraseIdx i := by
  have hn : ((leftOf mes seen).toList.map (·.born)).Nodup := by
    unfold leftOf
    rw [Array.toList_filter]
    exact (hb.1.sublist (List.Sublist.map _ List.filter_sublist))
  rw [← filter_born i hi hn]
  generalize (leftOf mes seen).toList[i] = e
  unfold leftOf
  rw [Array.toList_filter, Array.toList_filter, List.filter_filter]
  congr 1
  funext x
  simp [Array.contains_push, Bool.and_comm]
  by_cases hx : x.born = e.born <;> simp [hx]
theorem erase_map {α β : Type} (f : α → β) : ∀ (l : List α) (i : Nat), (l.eraseIdx i).map f = (l.map f).eraseIdx i
  | [], _ => rfl
  | a :: l, 0 => rfl
  | a :: l, i + 1 => by simp only [List.eraseIdx_cons_succ, List.map_cons, erase_map f l i]
/-- one of several states -/
def GStepS (P : Program) (n0 : Nat) (o : Oper) (st : St) (S : St → Prop) : Prop :=
  ∀ F base w0 ρ a w, HRel F base ρ st.heap st.next w0 w → ERel ρ (Stab F ρ st.heap) w st.nt st.env a → o.wp P a w (fun a' w' => ∃ st', S st' ∧ Next n0 F base w0 ρ w st' a' w') (fun _ _ _ => False)
theorem l_gs {ops : List Oper} {rest : List Oper} {S : St → Prop} {Q : St → Prop} (hg : guardV st.env ops o.guard = some true) (hs : GStepS P n0 o st S) (h : ∀ st', S st' → RunL P n0 ops.toArray rest st' Q) : RunL P n0 ops.toArray (o :: rest) st Q :=
  fun F base w0 ρ a w hH hE => wpList_step fun K hK => by
    rw [if_pos (guardV_spec hE hg)]
    refine upon_mono (fun a' w' h' => ?_) (fun e a w h => h.elim) (hs F base w0 ρ a w hH hE)
    obtain ⟨st', hst, ρ', h1, h2, h3, h4⟩ := h'
    refine hK _ _ ?_
    have := h st' hst F base w0 ρ' a' w' h1 h2
    exact wpList_mono (fun e a w hp => Post.trans h4 hp) _ _ _ this
/-- the loop's next round, if there is one: whichever entry is still to come -/
theorem g_nextMap {d id : Nat} {x : Operand} {left : List (Value × Value)} {cur : Option (Value × Value)} (ho : o.op = .next x false) (hd : o.dst = some d) (hdn : Nat.blt d st.nt = true) (hx : opE st.env x = some (.own id)) (hh : getH st.heap id = some (.iter left cur)) :
    GStepS P n0 o st (fun st' => (left = [] ∧ st' = { st with env := (d, .tup [.lit (.bool false)]) :: st.env }) ∨
      ∃ i, ∃ h : i < left.length, st' = { st with env := (d, .tup [.lit (.bool true), .lit left[i].1, .lit left[i].2]) :: st.env, heap := (id, some (.iter (left.eraseIdx i) (some left[i]))) :: st.heap }) := fun F base w0 ρ a w hH hE => by
  have h1 := own_inv (opE_sound hE hx)
  obtain ⟨r, b, mes, clock, since, seen, c0, e1, e2, e3, e4, e5, hb, hold, hsc, hsk, hleft, hone, _⟩ := hH.blk _ _ hh
  rw [h1] at e1; injection e1 with e1
  have hns : ¬ Stab F ρ st.heap r := fun hs => hs.2 id _ _ hh rfl (by rw [h1, e1]) rfl
  rcases run_next_at (P := P) w o.type r b since c0 seen mes clock e3 e5 hold hsc with ⟨h0, hrun⟩ | ⟨e, he, w1, hal, hrun⟩
  · refine wp_of_value (u := .tuple #[.bool false]) (w' := w) ?_ ?_
    · unfold execOp; rw [ho]
      simp only []
      rw [e1]
      simp only [Sem.run_bind, hrun]
      rfl
    · rw [hd]
      refine ⟨_, .inl ⟨?_, rfl⟩, ρ, hH, hE.put (Nat.le_of_ble_eq_true hdn) (.tup rfl (fun j hj => ?_)), fun _ _ h => h, fun _ _ => rfl⟩
      · rw [← hleft, List.map_eq_nil_iff]
        exact List.eq_nil_of_length_eq_zero (by simpa using h0)
      · simp only [List.length_cons, List.length_nil] at hj
        rcases (show j = 0 by omega) with rfl
        exact .pure (.lit _ rfl)
  · obtain ⟨i, hi, rfl⟩ := List.getElem_of_mem he
    have hil : i < left.length := by rw [← hleft, List.length_map]; exact hi
    have hkv : left[i] = kvE (leftOf mes seen).toList[i] := by subst hleft; simp
    have hem : (leftOf mes seen).toList[i] ∈ mes.toList := by
      have hall : ∀ x ∈ (leftOf mes seen).toList, x ∈ mes.toList := fun x hx => by
        unfold leftOf at hx
        rw [Array.toList_filter] at hx
        exact (List.mem_filter.1 hx).1
      exact hall _ he
    have hpush := leftOf_push (seen := seen) hb hi
    generalize hE' : (leftOf mes seen).toList[i] = e at *
    refine wp_of_value (u := .tuple #[.bool true, e.key, e.val]) (w' := setBlock w1 r (.mapIter (some b) since (seen.push e.born) clock)) ?_ ?_
    · unfold execOp; rw [ho]
      simp only []
      rw [e1]
      simp only [Sem.run_bind, hrun]
      rfl
    · rw [hd]
      have hh1 : w1.heap = w.heap := by rcases hal with rfl | rfl <;> rfl
      have e3' : w1.heap[r]? = some (.mapIter (some b) since seen c0) := by rw [hh1]; exact e3
      have hg : w.grownBy (setBlock w1 r (.mapIter (some b) since (seen.push e.born) clock)) (some r) := by
        refine ⟨by rcases hal with rfl | rfl <;> rfl, by rcases hal with rfl | rfl <;> rfl, by rcases hal with rfl | rfl <;> rfl, by simp [setBlock, hh1], fun i _ hi => ?_⟩
        rw [heap_setO_other w1 r _ (fun e => hi (by rw [e])), hh1]
      obtain ⟨q1, q2, q3⟩ := hH.step (ρ' := ρ) (heap' := (id, some (.iter (left.eraseIdx i) (some left[i]))) :: st.heap) (next' := st.next) id (some r) hg
        (fun k hk => by injection hk with hk; subst hk; exact ⟨e2, hns⟩) (fun _ _ h => h) (fun id u h => hH.sup id u h)
        (fun i B hne hB => by
          rw [getH_new, if_neg (Ne.symm hne)] at hB
          refine ⟨hB, ?_⟩
          obtain ⟨u, hu⟩ := hH.some_of hB
          exact ⟨u, hu, fun ho b' hb e => by injection e with e; subst e; exact hne (hH.inj i id B _ u _ r hB hh ho rfl hu (by rw [h1, e1]) hb rfl)⟩)
        (fun B u b' hB ho hu hb => by
          rw [h1, e1] at hu; injection hu with hu; subst hu
          simp only [blockOf, Option.some.injEq] at hb; subst hb
          refine .inr ⟨hns, fun i B' u' hne hB' ho' hu' hb' => ?_⟩
          rw [getH_new, if_neg (Ne.symm hne)] at hB'
          exact hne (hH.inj i id B' _ u' _ r hB' hh ho' rfl hu' (by rw [h1, e1]) hb' rfl))
        (fun B hB hS hsame => by
          rw [getH_new, if_pos rfl] at hB; injection hB with hB; subst hB
          have hlt := (Array.getElem?_eq_some_iff.1 e5).1
          refine ⟨r, b, mes, clock, since, seen.push e.born, clock, by rw [h1, e1], e2, heap_setO e3' _, hS b e4 hlt, by rw [hsame b e4 hlt]; exact e5, hb, hold, hsk, hsk, ?_, hone, fun kv hkv' => ⟨rfl, seen, e, rfl, hem, ?_⟩⟩
          · rw [hpush, ← hleft]
            exact erase_map kvE _ i
          · injection hkv' with hkv'
            rw [← hkv', hkv])
      refine ⟨_, .inr ⟨i, hil, rfl⟩, ρ, q1, (hE.mono q2 q3 (fun _ _ h => h)).put (Nat.le_of_ble_eq_true hdn) (.tup rfl (fun j hj => ?_)), fun _ _ h => h, fun _ _ => rfl⟩
      have ho1 := hone e hem
      simp only [List.length_cons, List.length_nil] at hj
      rw [hkv]
      rcases (show j = 0 ∨ j = 1 ∨ j = 2 by omega) with rfl | rfl | rfl
      · exact .pure (.lit _ rfl)
      · exact .pure (.lit _ ho1.1)
      · exact .pure (.lit _ ho1.2)
/-- the round's key and value -/
theorem q_entry {id : Nat} {x : Operand} {left : List (Value × Value)} {kv : Value × Value} (ho : o.op = .entry x) (hx : opE st.env x = some (.own id)) (hh : getH st.heap id = some (.iter left (some kv))) (hG : notIn id G = true) : QStep P G o st (.tup [.lit kv.1, .lit kv.2]) := fun F base w0 ρ a w hH hE hL => by
  have h1 := own_inv (opE_sound hE hx)
  obtain ⟨r, b, mes, clock, since, seen, c0, e1, e2, e3, e4, e5, hb, hold, hsc, hsk, hleft, hone, hcur⟩ := hH.blk _ _ hh
  obtain ⟨rfl, seen', e, rfl, hem, rfl⟩ := hcur _ rfl
  have ho1 := hone e hem
  refine ⟨.tuple #[e.key, e.val], .tup rfl (fun j hj => ?_), fun w' hw' => ?_⟩
  · match j, hj with
    | 0, _ => exact .pure (.lit _ ho1.1)
    | 1, _ => exact .pure (.lit _ ho1.2)
  · have g3 : w'.heap[r]? = some (.mapIter (some b) since (seen'.push e.born) c0) := by
      rw [hw'.block r (Array.getElem?_eq_some_iff.1 e3).1 (own_notGB hH hL hG hh rfl e1 rfl)]; exact e3
    have g5 : w'.heap[b]? = some (.map mes c0) := by
      rw [hw'.block b (Array.getElem?_eq_some_iff.1 e5).1 (stab_notGB hL e4)]; exact e5
    rw [h1] at e1; injection e1 with e1
    unfold execOp; rw [ho]
    simp only []
    rw [e1]
    simp only [Sem.run_bind, run_entry_at (P := P) w' r b since seen' mes c0 e g3 g5 hem hb.1]
    rfl
section
variable {ops : List Oper} {rest : List Oper} {env : List (Nat × V)} {heap : List (Nat × Option Blk)} {next nt : Nat} {Q : St → Prop}
theorem s_lookF {T et id d : Nat} {m x : Operand} {q : Option IntKind} {k z r : Value} {es : List (Value × Value)} (hr : (mlook k es).getD z = r) (ho : o.op = .lookup T m x false := by rfl) (hm : opE env m = some (.own id) := by rfl) (hh : getH heap id = some (.fmap q es) := by rfl)
    (hx : opE env x = some (.lit k) := by rfl) (hq : mapQ P T = some (q, et) := by rfl) (hk : keyOk q k = true := by rfl) (hz : zero1 P et = some z := by rfl) (hg : guardV env ops o.guard = some true := by rfl) (hd : o.dst = some d := by rfl) (hdn : Nat.blt d nt = true := by rfl)
    (h : RunL P n0 ops.toArray rest ⟨(d, .lit r) :: env, heap, next, nt⟩ Q) : RunL P n0 ops.toArray (o :: rest) ⟨env, heap, next, nt⟩ Q := by
  obtain ⟨kt, h1, h2⟩ := mapQ_spec hq
  subst hr
  exact x_q hg hd hdn (by simpa using q_lookF (st := ⟨env, heap, next, nt⟩) (G := []) ho hm hh hx h1 h2 hk hz) h
theorem s_insertR {T et id : Nat} {m x y : Operand} {q : Option IntKind} {k v : Value} {es r : List (Value × Value)} (hr : mput k v es = r) (ho : o.op = .insert T m x y ∨ o.op = .mapUpdate T m x y := by first | exact .inl rfl | exact .inr rfl) (hd : o.dst = none := by rfl) (hm : opE env m = some (.own id) := by rfl) (hh : getH heap id = some (.map q es) := by rfl)
    (hx : opE env x = some (.lit k) := by rfl) (hy : opE env y = some (.lit v) := by rfl) (hq : mapQ P T = some (q, et) := by rfl) (hk : keyOk q k = true := by rfl) (hg : guardV env ops o.guard = some true := by rfl)
    (h : RunL P n0 ops.toArray rest ⟨env, (id, some (.map q r)) :: heap, next, nt⟩ Q) : RunL P n0 ops.toArray (o :: rest) ⟨env, heap, next, nt⟩ Q := by
  subst hr
  exact s_insert ho hd hm hh hx hy hq hk hg h
/-- a loop over a map begins: the map is written no more -/
theorem s_rangeMap {T et id d : Nat} {x : Operand} {q : Option IntKind} {es : List (Value × Value)} (ho : o.op = .range T x := by rfl) (hx : opE env x = some (.own id) := by rfl) (hh : getH heap id = some (.map q es) := by rfl) (hq : mapQ P T = some (q, et) := by rfl)
    (hg : guardV env ops o.guard = some true := by rfl) (hd : o.dst = some d := by rfl) (hdn : Nat.blt d nt = true := by rfl) (hn0 : Nat.ble n0 next = true := by rfl)
    (h : RunL P n0 ops.toArray rest ⟨(d, .own next) :: env, (next, some (.iter es none)) :: (id, some (.fmap q es)) :: heap, next + 1, nt⟩ Q) : RunL P n0 ops.toArray (o :: rest) ⟨env, heap, next, nt⟩ Q := by
  obtain ⟨kt, h1, h2⟩ := mapQ_spec hq
  refine l_less (less_fmap (st := ⟨env, heap, next, nt⟩) hh) ?_
  exact l_g hg (gstep_of_at (Nat.le_of_ble_eq_true hn0) (a_rangeMap (T := T) (id := id) (q := q) (es := es) (st := { env := env, heap := (id, some (.fmap q es)) :: heap, next := next + 1, nt := nt }) ho hx (by simp [getH]) h1 hd hdn)) h
theorem s_nextMap {id d : Nat} {x : Operand} {left : List (Value × Value)} {cur : Option (Value × Value)} (ho : o.op = .next x false := by rfl) (hx : opE env x = some (.own id) := by rfl) (hh : getH heap id = some (.iter left cur) := by rfl)
    (hg : guardV env ops o.guard = some true := by rfl) (hd : o.dst = some d := by rfl) (hdn : Nat.blt d nt = true := by rfl)
    (he : left = [] → RunL P n0 ops.toArray rest ⟨(d, .tup [.lit (.bool false)]) :: env, heap, next, nt⟩ Q)
    (h : ∀ i, ∀ h : i < left.length, RunL P n0 ops.toArray rest ⟨(d, .tup [.lit (.bool true), .lit left[i].1, .lit left[i].2]) :: env, (id, some (.iter (left.eraseIdx i) (some left[i]))) :: heap, next, nt⟩ Q) : RunL P n0 ops.toArray (o :: rest) ⟨env, heap, next, nt⟩ Q := by
  refine l_gs hg (g_nextMap (st := ⟨env, heap, next, nt⟩) ho hd hdn hx hh) (fun st' hs => ?_)
  rcases hs with ⟨h0, rfl⟩ | ⟨i, hi, rfl⟩
  · exact he h0
  · exact h i hi
theorem s_entry {id d : Nat} {x : Operand} {left : List (Value × Value)} {kv : Value × Value} (ho : o.op = .entry x := by rfl) (hx : opE env x = some (.own id) := by rfl) (hh : getH heap id = some (.iter left (some kv)) := by rfl)
    (hg : guardV env ops o.guard = some true := by rfl) (hd : o.dst = some d := by rfl) (hdn : Nat.blt d nt = true := by rfl)
    (h : RunL P n0 ops.toArray rest ⟨(d, .tup [.lit kv.1, .lit kv.2]) :: env, heap, next, nt⟩ Q) : RunL P n0 ops.toArray (o :: rest) ⟨env, heap, next, nt⟩ Q :=
  x_q hg hd hdn (q_entry (st := ⟨env, heap, next, nt⟩) (G := []) ho hx hh rfl) h
end
end
end Go.Proofs.Ytfdomanbdfekhaa
