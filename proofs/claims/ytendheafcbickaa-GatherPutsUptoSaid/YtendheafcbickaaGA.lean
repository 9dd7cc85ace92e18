/-
  SEVERAL TEXTS IN ONE: each with its own comment.
-/
import Derived.Test.YtendheafcbickaaAbsB
import Derived.Maps.RangeRun
import Derived.Laws.Pointers
/-
  A VALUE CALCULUS OVER THE MODEL, part 28: a nil slice in a box of one cell, taken for a row of the call's own. Plain lemmas, over any program.
-/
set_option linter.unusedVariables false
set_option linter.unusedSimpArgs false
set_option linter.unusedVariables false
namespace Go.Proofs.Ytendheafcbickaa
open Go.RowKit
section
variable {P : Program} {n0 : Nat}
theorem less_row {st : St} (e s : Nat) (h0 : Nat.blt 0 s = true) (hn0 : Nat.ble n0 st.next = true) {F : Nat → Prop} {base : Nat → Prop} {w0 w : World} {ρ : Nat → Option Value} {a : Act} (hH : HRel F base ρ st.heap st.next w0 w) (hE : ERel ρ (Stab F ρ st.heap) w st.nt st.env a) :
    ∃ ρ', HRel F base ρ' ((st.next, some (.row e s [])) :: st.heap) (st.next + 1) w0 w ∧ ERel ρ' (Stab F ρ' ((st.next, some (.row e s [])) :: st.heap)) w st.nt st.env a ∧ ρ' st.next = some (.slice none 0 0) ∧ ∀ id, id ≠ st.next → ρ' id = ρ id := by
  have hnn : ρ st.next = none := by
    cases h : ρ st.next with
    | none => rfl
    | some x => exact absurd (hH.sup _ _ h).1 (Nat.lt_irrefl _)
  have hext : ∀ id x, ρ id = some x → upd ρ st.next (.slice none 0 0) id = some x := fun id x h => by rw [upd_ne _ _ (fun e => by rw [e, hnn] at h; cases h)]; exact h
  obtain ⟨q1, q2, q3⟩ := hH.step (ρ' := upd ρ st.next (.slice none 0 0)) (heap' := (st.next, some (.row e s [])) :: st.heap) (next' := st.next + 1) (w' := w) st.next none
    ⟨rfl, rfl, rfl, Nat.le_refl _, fun _ _ _ => rfl⟩ (fun k hk => by cases hk) hext
    (fun id x h => by
      by_cases e : id = st.next
      · rw [e, upd_same] at h; injection h with h; subst h; exact ⟨by omega, rfl⟩
      · rw [upd_ne _ _ e] at h; have := hH.sup _ _ h; exact ⟨by omega, this.2⟩)
    (fun j B hne hB => by
      rw [getH_new, if_neg (Ne.symm hne)] at hB
      obtain ⟨u, hu⟩ := hH.some_of hB
      exact ⟨hB, u, hu, fun _ _ _ e => by cases e⟩)
    (fun B u b hB hoB hu hb => by
      rw [upd_same] at hu; injection hu with hu; subst hu
      simp [blockOf] at hb)
    (fun B hB hS hsame => by
      rw [getH_new, if_pos rfl] at hB; injection hB with hB; subst hB
      exact ⟨Nat.le_of_ble_eq_true h0, _, [], upd_same _ _ _, ⟨World.ownsRow_nil w 0 e s, fun b hb => by cases hb⟩, fun i hi => by simp at hi, fun i j hi => by simp at hi⟩)
  exact ⟨_, q1, hE.mono q2 q3 hext, upd_same _ _ _, fun id h => upd_ne _ _ h⟩
theorem less_box1 {id T : Nat} {st : St} (e s : Nat) (h0 : Nat.blt 0 s = true) (hn0 : Nat.ble n0 st.next = true) (hne : Nat.beq id st.next = false) (hh : getH st.heap id = some (.box T [.lit (.slice none 0 0)])) :
    Less P n0 st { env := st.env, heap := (id, some (.box T [.own st.next])) :: (st.next, some (.row e s [])) :: st.heap, next := st.next + 1, nt := st.nt } := fun F base w0 ρ a w hH hE => by
  obtain ⟨ρ', q1, q2, q3, q4⟩ := less_row e s h0 hn0 hH hE
  have hidn : id ≠ st.next := fun e => by rw [e] at hne; simp at hne
  have hh' : getH ((st.next, some (.row e s [])) :: st.heap) id = some (.box T [.lit (.slice none 0 0)]) := by
    rw [getH_new, if_neg (Ne.symm hidn)]; exact hh
  obtain ⟨p1, p2, p3⟩ := q1.step (ρ' := ρ') (heap' := (id, some (.box T [.own st.next])) :: (st.next, some (.row e s [])) :: st.heap) (next' := st.next + 1) (w' := w) id none
    ⟨rfl, rfl, rfl, Nat.le_refl _, fun _ _ _ => rfl⟩ (fun k hk => by cases hk) (fun _ _ h => h) (fun j u h => q1.sup j u h)
    (fun j B hj hB => by
      rw [getH_new, if_neg (Ne.symm hj)] at hB
      obtain ⟨u, hu⟩ := q1.some_of hB
      exact ⟨hB, u, hu, fun _ _ _ e => by cases e⟩)
    (fun B u b hB hoB hu hb => by
      refine .inr ⟨fun hs => hs.2 id _ _ hh' rfl hu hb, fun j B' u' hj hB' ho' hu' hb' => ?_⟩
      rw [getH_new, if_neg (Ne.symm hj)] at hB'
      exact hj (q1.inj j id B' _ u' _ b hB' hh' ho' rfl hu' hu hb' hb))
    (fun B hB hS hsame => by
      rw [getH_new, if_pos rfl] at hB; injection hB with hB; subst hB
      obtain ⟨b, us, e1, e2, e3, e4, e5⟩ := q1.blk _ _ hh'
      refine ⟨b, us, e1, e2, e3, e4, fun j hj => ?_⟩
      have hj0 : j = 0 := by simp only [List.length_cons, List.length_nil] at hj; omega
      subst hj0
      have h5 := e5 0 (by simp)
      refine ⟨?_, h5.2⟩
      have := lit_inv h5.1
      rw [this]
      exact .own q3)
  exact ⟨ρ', p1, q2.mono p2 p3 (fun _ _ h => h), fun j hj => q4 j (by have := Nat.le_of_ble_eq_true hn0; omega)⟩
end
end Go.Proofs.Ytendheafcbickaa

/-
  A VALUE CALCULUS OVER THE MODEL, part 30: maps that nobody writes any more, and loops over them. Plain lemmas, over any program.
-/
set_option linter.unusedVariables false
set_option linter.unusedSimpArgs false
set_option linter.unusedVariables false
namespace Go.Proofs.Ytendheafcbickaa
open Go.RowKit Go.ChangeMaps
section
variable {P : Program} {o : Oper} {n0 : Nat} {st : St} {G : List Nat}
/-- a map is written no more -/
theorem less_fmap {id : Nat} {q : Option IntKind} {es : List (Value × Value)} (hh : getH st.heap id = some (.map q es)) : Less P n0 st { st with heap := (id, some (.fmap q es)) :: st.heap } := fun F base w0 ρ a w hH hE => by
  obtain ⟨b, mes, clock, h1, h2, h3, h4, h5, h6⟩ := hH.blk _ _ hh
  have hS : ∀ b, Stab F ρ st.heap b → Stab F ρ ((id, some (.fmap q es)) :: st.heap) b := fun b h => ⟨h.1, fun j B u hB ho hu => by
    rw [getH_new] at hB
    split at hB
    · injection hB with hB; subst hB; cases ho
    · exact h.2 j B u hB ho hu⟩
  have hSo : Stab F ρ ((id, some (.fmap q es)) :: st.heap) b := by
    have hob := hH.owned hh rfl h1 (b := b) rfl
    refine ⟨hH.hF b hob.1, fun j B u hB ho hu hub => ?_⟩
    rw [getH_new] at hB
    split at hB
    · injection hB with hB; subst hB; cases ho
    · rename_i hji
      exact hji (hH.inj id j _ B _ u b hh hB rfl ho h1 hu rfl hub)
  refine ⟨ρ, ⟨⟨hH.below, hH.hbase, hH.sup, fun i j B B' u u' b hB hB' ho ho' hu hu' hb hb' => ?_, fun j B hB => ?_⟩, hH.hF⟩, hE.mono (Same.refl _ _) (fun b h _ => hS b h) (fun _ _ h => h), fun _ _ => rfl⟩
  · rw [getH_new] at hB hB'
    split at hB
    · injection hB with hB; subst hB; cases ho
    · split at hB'
      · injection hB' with hB'; subst hB'; cases ho'
      · exact hH.inj i j B B' u u' b hB hB' ho ho' hu hu' hb hb'
  · rw [getH_new] at hB
    split at hB
    · rename_i e; subst e
      injection hB with hB; subst hB
      exact ⟨b, mes, clock, h1, hSo, h3, h4, h5, h6⟩
    · exact (hH.blk j B hB).mono (Same.refl _ _) (fun b h _ => hS b h) (fun _ _ h => h) (fun _ _ _ _ _ _ => rfl)
/-- what such a map holds -/
theorem q_lookF {T kt et id : TypeId} {m x : Operand} {q : Option IntKind} {k z : Value} {ok : Bool} {es : List (Value × Value)} (ho : o.op = .lookup T m x ok) (hm : opE st.env m = some (.own id)) (hh : getH st.heap id = some (.fmap q es))
    (hx : opE st.env x = some (.lit k)) (hT : P.underlying T = some (.map kt et)) (hkt : P.underlying kt = some (kindD q)) (hk : keyOk q k = true) (hz : zero1 P et = some z) :
    QStep P G o st (if ok then .tup [.lit ((mlook k es).getD z), .lit (.bool (mlook k es).isSome)] else .lit ((mlook k es).getD z)) := fun F base w0 ρ a w hH hE hL => by
  have h1 := own_inv (opE_sound hE hm)
  obtain ⟨b, mes, clock, e1, e2, e3, e4, e5, _⟩ := hH.blk _ _ hh
  obtain ⟨hzo, z3⟩ := zero1_spec hz
  have hr : ∀ w', Ext (GB ρ G) w w' → (Instr.lookup T (a.eval m) (a.eval x) ok).run P w' = .ok (if ok then .tuple #[(mlook k es).getD z, .bool (mlook k es).isSome] else (mlook k es).getD z) w' := fun w' hw' => by
    have e3' : w'.heap[b]? = some (.map mes clock) := by
      rw [hw'.block b (Array.getElem?_eq_some_iff.1 e3).1 (stab_notGB hL e2)]; exact e3
    rw [h1] at e1; injection e1 with e1
    rw [e1, lit_inv (opE_sound hE hx)]
    have := run_look (P := P) (ok := ok) hT hkt e3' hk (fun e he => (e5 (kvE e) (by rw [← e4]; exact List.mem_map.2 ⟨e, he, rfl⟩)).1) (z3 w')
    rw [e4] at this
    exact this
  have hvo : ((mlook k es).getD z).oneCell' = true := by
    cases hc : mlook k es with
    | none => exact hzo
    | some x => exact mlook_one e5 hc
  refine ⟨if ok then .tuple #[(mlook k es).getD z, .bool (mlook k es).isSome] else (mlook k es).getD z, ?_, fun w' hw' => ?_⟩
  · cases ok
    · exact .pure (.lit _ hvo)
    · refine .tup rfl (fun j hj => ?_)
      match j, hj with
      | 0, _ => exact .pure (.lit _ hvo)
      | 1, _ => exact .pure (.lit _ rfl)
  · unfold execOp; rw [ho]; simp only [Sem.run_bind, hr w' hw']; rfl
theorem keyOk_one {q : Option IntKind} {v : Value} (h : keyOk q v = true) : v.oneCell' = true := by
  rcases keyOk_cases h with ⟨k, a, _, rfl⟩ | ⟨s, _, rfl⟩ <;> rfl
theorem leftOf_nil (mes : Array MapEntry) : leftOf mes #[] = mes := by unfold leftOf; simp
/-- a loop over such a map begins -/
theorem a_rangeMap {k T kt et id d : Nat} {x : Operand} {q : Option IntKind} {es : List (Value × Value)} (ho : o.op = .range T x) (hx : opE st.env x = some (.own id)) (hh : getH st.heap id = some (.fmap q es)) (hT : P.underlying T = some (.map kt et)) (hd : o.dst = some d) (hdn : Nat.blt d st.nt = true) :
    GAt P k o st (st.newAt k d (.own k) (.iter es none)) := fun F base w0 ρ a w hH hE hnn hk => by
  have h1 := own_inv (opE_sound hE hx)
  obtain ⟨b, mes, clock, e1, e2, e3, e4, e5, e6⟩ := hH.blk _ _ hh
  rw [h1] at e1; injection e1 with e1
  have hlt := (Array.getElem?_eq_some_iff.1 e3).1
  refine wp_of_value (u := .pointer (some ⟨w.heap.size, 0, none⟩)) (w' := w.alloc (.mapIter (some b) clock #[] clock)) ?_ ?_
  · unfold execOp; rw [ho]
    simp only [Sem.run_bind, e1, run_range_map w T kt et b mes clock hT e3]; rfl
  · rw [hd]
    refine next_new hH hE hnn hk (below_alloc _ _) (fun _ b hb => by simp only [blockOf, Option.some.injEq] at hb; omega) (Nat.le_of_ble_eq_true hdn) rfl (fun S hS _ hsame => ?_) (fun S => .own (upd_same _ _ _))
    refine ⟨w.heap.size, b, mes, clock, clock, #[], clock, upd_same _ _ _, hH.hbase _ (Nat.le_refl _), heap_alloc_new _ _, hS b e2 hlt, by rw [hsame b e2 hlt]; exact e3, e6, e6.2, Nat.le_refl _, Nat.le_refl _, by rw [leftOf_nil]; exact e4, fun e he => ?_, fun kv h => by cases h⟩
    have := e5 (kvE e) (by rw [← e4]; exact List.mem_map.2 ⟨e, he, rfl⟩)
    exact ⟨keyOk_one this.1, this.2⟩
theorem filter_born : ∀ {l : List MapEntry} (i : Nat) (hi : i < l.length), (l.map (·.born)).Nodup → l.filter (fun x => !(x.born == l[i].born)) = l.eraseIdx i
  | [], i, hi, _ => by simp at hi
  | e :: l, 0, _, h => by
    simp only [List.map_cons, List.nodup_cons] at h
    simp only [List.getElem_cons_zero, List.filter_cons, beq_self_eq_true, Bool.not_true, Bool.false_eq_true, if_false, List.eraseIdx_zero, List.tail_cons]
    rw [List.filter_eq_self]
    intro x hx
    have : x.born ≠ e.born := fun hb => h.1 (List.mem_map.2 ⟨x, hx, hb⟩)
    simpa using this
  | e :: l, i + 1, hi, h => by
    simp only [List.map_cons, List.nodup_cons] at h
    have hi' : i < l.length := by simpa using hi
    have hne : e.born ≠ l[i].born := fun hb => h.1 (List.mem_map.2 ⟨l[i], List.getElem_mem hi', hb.symm⟩)
    have ih := filter_born i hi' h.2
    simp only [List.getElem_cons_succ, List.filter_cons, List.eraseIdx_cons_succ]
    rw [if_pos (by simpa using hne), ih]
theorem leftOf_push {mes : Array MapEntry} {seen : Array Nat} {clock : Nat} (hb : Births mes clock) {i : Nat} (hi : i < (leftOf mes seen).toList.length) : (leftOf mes (seen.push (leftOf mes seen).toList[i].born)).toList = (leftOf mes seen).toList.eraseIdx i := by
  have hn : ((leftOf mes seen).toList.map (·.born)).Nodup := by
    unfold leftOf
    rw [Array.toList_filter]
    exact (hb.1.sublist (List.Sublist.map _ List.filter_sublist))
  rw [← filter_born i hi hn]
  generalize (leftOf mes seen).toList[i] = e
  unfold leftOf
  rw [Array.toList_filter, Array.toList_filter, List.filter_filter]
  congr 1
  funext x
  simp [Array.contains_push, Bool.and_comm]
  by_cases hx : x.born = e.born <;> simp [hx]
theorem erase_map {α β : Type} (f : α → β) : ∀ (l : List α) (i : Nat), (l.eraseIdx i).map f = (l.map f).eraseIdx i
  | [], _ => rfl
  | a :: l, 0 => rfl
  | a :: l, i + 1 => by simp only [List.eraseIdx_cons_succ, List.map_cons, erase_map f l i]
/-- one of several states -/
def GStepS (P : Program) (n0 : Nat) (o : Oper) (st : St) (S : St → Prop) : Prop :=
  ∀ F base w0 ρ a w, HRel F base ρ st.heap st.next w0 w → ERel ρ (Stab F ρ st.heap) w st.nt st.env a → o.wp P a w (fun a' w' => ∃ st', S st' ∧ Next n0 F base w0 ρ w st' a' w') (fun _ _ _ => False)
theorem l_gs {ops : List Oper} {rest : List Oper} {S : St → Prop} {Q : St → Prop} (hg : guardV st.env ops o.guard = some true) (hs : GStepS P n0 o st S) (h : ∀ st', S st' → RunL P n0 ops.toArray rest st' Q) : RunL P n0 ops.toArray (o :: rest) st Q :=
  fun F base w0 ρ a w hH hE => wpList_step fun K hK => by
    rw [if_pos (guardV_spec hE hg)]
    refine upon_mono (fun a' w' h' => ?_) (fun e a w h => h.elim) (hs F base w0 ρ a w hH hE)
    obtain ⟨st', hst, ρ', h1, h2, h3, h4⟩ := h'
    refine hK _ _ ?_
    have := h st' hst F base w0 ρ' a' w' h1 h2
    exact wpList_mono (fun e a w hp => Post.trans h4 hp) _ _ _ this
/-- the loop's next round, if there is one: whichever entry is still to come -/
theorem g_nextMap {d id : Nat} {x : Operand} {left : List (Value × Value)} {cur : Option (Value × Value)} (ho : o.op = .next x false) (hd : o.dst = some d) (hdn : Nat.blt d st.nt = true) (hx : opE st.env x = some (.own id)) (hh : getH st.heap id = some (.iter left cur)) :
    GStepS P n0 o st (fun st' => (left = [] ∧ st' = { st with env := (d, .tup [.lit (.bool false)]) :: st.env }) ∨
      ∃ i, ∃ h : i < left.length, st' = { st with env := (d, .tup [.lit (.bool true), .lit left[i].1, .lit left[i].2]) :: st.env, heap := (id, some (.iter (left.eraseIdx i) (some left[i]))) :: st.heap }) := fun F base w0 ρ a w hH hE => by
  have h1 := own_inv (opE_sound hE hx)
  obtain ⟨r, b, mes, clock, since, seen, c0, e1, e2, e3, e4, e5, hb, hold, hsc, hsk, hleft, hone, _⟩ := hH.blk _ _ hh
  rw [h1] at e1; injection e1 with e1
  have hns : ¬ Stab F ρ st.heap r := fun hs => hs.2 id _ _ hh rfl (by rw [h1, e1]) rfl
  rcases run_next_at (P := P) w o.type r b since c0 seen mes clock e3 e5 hold hsc with ⟨h0, hrun⟩ | ⟨e, he, w1, hal, hrun⟩
  · refine wp_of_value (u := .tuple #[.bool false]) (w' := w) ?_ ?_
    · unfold execOp; rw [ho]
      simp only []
      rw [e1]
      simp only [Sem.run_bind, hrun]
      rfl
    · rw [hd]
      refine ⟨_, .inl ⟨?_, rfl⟩, ρ, hH, hE.put (Nat.le_of_ble_eq_true hdn) (.tup rfl (fun j hj => ?_)), fun _ _ h => h, fun _ _ => rfl⟩
      · rw [← hleft, List.map_eq_nil_iff]
        exact List.eq_nil_of_length_eq_zero (by simpa using h0)
      · simp only [List.length_cons, List.length_nil] at hj
        rcases (show j = 0 by omega) with rfl
        exact .pure (.lit _ rfl)
  · obtain ⟨i, hi, rfl⟩ := List.getElem_of_mem he
    have hil : i < left.length := by rw [← hleft, List.length_map]; exact hi
    have hkv : left[i] = kvE (leftOf mes seen).toList[i] := by subst hleft; simp
    have hem : (leftOf mes seen).toList[i] ∈ mes.toList := by
      have hall : ∀ x ∈ (leftOf mes seen).toList, x ∈ mes.toList := fun x hx => by
        unfold leftOf at hx
        rw [Array.toList_filter] at hx
        exact (List.mem_filter.1 hx).1
      exact hall _ he
    have hpush := leftOf_push (seen := seen) hb hi
    generalize hE' : (leftOf mes seen).toList[i] = e at *
    refine wp_of_value (u := .tuple #[.bool true, e.key, e.val]) (w' := setBlock w1 r (.mapIter (some b) since (seen.push e.born) clock)) ?_ ?_
    · unfold execOp; rw [ho]
      simp only []
      rw [e1]
      simp only [Sem.run_bind, hrun]
      rfl
    · rw [hd]
      have hh1 : w1.heap = w.heap := by rcases hal with rfl | rfl <;> rfl
      have e3' : w1.heap[r]? = some (.mapIter (some b) since seen c0) := by rw [hh1]; exact e3
      have hg : w.grownBy (setBlock w1 r (.mapIter (some b) since (seen.push e.born) clock)) (some r) := by
        refine ⟨by rcases hal with rfl | rfl <;> rfl, by rcases hal with rfl | rfl <;> rfl, by rcases hal with rfl | rfl <;> rfl, by simp [setBlock, hh1], fun i _ hi => ?_⟩
        rw [heap_setO_other w1 r _ (fun e => hi (by rw [e])), hh1]
      obtain ⟨q1, q2, q3⟩ := hH.step (ρ' := ρ) (heap' := (id, some (.iter (left.eraseIdx i) (some left[i]))) :: st.heap) (next' := st.next) id (some r) hg
        (fun k hk => by injection hk with hk; subst hk; exact ⟨e2, hns⟩) (fun _ _ h => h) (fun id u h => hH.sup id u h)
        (fun i B hne hB => by
          rw [getH_new, if_neg (Ne.symm hne)] at hB
          refine ⟨hB, ?_⟩
          obtain ⟨u, hu⟩ := hH.some_of hB
          exact ⟨u, hu, fun ho b' hb e => by injection e with e; subst e; exact hne (hH.inj i id B _ u _ r hB hh ho rfl hu (by rw [h1, e1]) hb rfl)⟩)
        (fun B u b' hB ho hu hb => by
          rw [h1, e1] at hu; injection hu with hu; subst hu
          simp only [blockOf, Option.some.injEq] at hb; subst hb
          refine .inr ⟨hns, fun i B' u' hne hB' ho' hu' hb' => ?_⟩
          rw [getH_new, if_neg (Ne.symm hne)] at hB'
          exact hne (hH.inj i id B' _ u' _ r hB' hh ho' rfl hu' (by rw [h1, e1]) hb' rfl))
        (fun B hB hS hsame => by
          rw [getH_new, if_pos rfl] at hB; injection hB with hB; subst hB
          have hlt := (Array.getElem?_eq_some_iff.1 e5).1
          refine ⟨r, b, mes, clock, since, seen.push e.born, clock, by rw [h1, e1], e2, heap_setO e3' _, hS b e4 hlt, by rw [hsame b e4 hlt]; exact e5, hb, hold, hsk, hsk, ?_, hone, fun kv hkv' => ⟨rfl, seen, e, rfl, hem, ?_⟩⟩
          · rw [hpush, ← hleft]
            exact erase_map kvE _ i
          · injection hkv' with hkv'
            rw [← hkv', hkv])
      refine ⟨_, .inr ⟨i, hil, rfl⟩, ρ, q1, (hE.mono q2 q3 (fun _ _ h => h)).put (Nat.le_of_ble_eq_true hdn) (.tup rfl (fun j hj => ?_)), fun _ _ h => h, fun _ _ => rfl⟩
      have ho1 := hone e hem
      simp only [List.length_cons, List.length_nil] at hj
      rw [hkv]
      rcases (show j = 0 ∨ j = 1 ∨ j = 2 by omega) with rfl | rfl | rfl
      · exact .pure (.lit _ rfl)
      · exact .pure (.lit _ ho1.1)
      · exact .pure (.lit _ ho1.2)
/-- the round's key and value -/
theorem q_entry {id : Nat} {x : Operand} {left : List (Value × Value)} {kv : Value × Value} (ho : o.op = .entry x) (hx : opE st.env x = some (.own id)) (hh : getH st.heap id = some (.iter left (some kv))) (hG : notIn id G = true) : QStep P G o st (.tup [.lit kv.1, .lit kv.2]) := fun F base w0 ρ a w hH hE hL => by
  have h1 := own_inv (opE_sound hE hx)
  obtain ⟨r, b, mes, clock, since, seen, c0, e1, e2, e3, e4, e5, hb, hold, hsc, hsk, hleft, hone, hcur⟩ := hH.blk _ _ hh
  obtain ⟨rfl, seen', e, rfl, hem, rfl⟩ := hcur _ rfl
  have ho1 := hone e hem
  refine ⟨.tuple #[e.key, e.val], .tup rfl (fun j hj => ?_), fun w' hw' => ?_⟩
  · match j, hj with
    | 0, _ => exact .pure (.lit _ ho1.1)
    | 1, _ => exact .pure (.lit _ ho1.2)
  · have g3 : w'.heap[r]? = some (.mapIter (some b) since (seen'.push e.born) c0) := by
      rw [hw'.block r (Array.getElem?_eq_some_iff.1 e3).1 (own_notGB hH hL hG hh rfl e1 rfl)]; exact e3
    have g5 : w'.heap[b]? = some (.map mes c0) := by
      rw [hw'.block b (Array.getElem?_eq_some_iff.1 e5).1 (stab_notGB hL e4)]; exact e5
    rw [h1] at e1; injection e1 with e1
    unfold execOp; rw [ho]
    simp only []
    rw [e1]
    simp only [Sem.run_bind, run_entry_at (P := P) w' r b since seen' mes c0 e g3 g5 hem hb.1]
    rfl
section
variable {ops : List Oper} {rest : List Oper} {env : List (Nat × V)} {heap : List (Nat × Option Blk)} {next nt : Nat} {Q : St → Prop}
theorem s_insertR {T et id : Nat} {m x y : Operand} {q : Option IntKind} {k v : Value} {es r : List (Value × Value)} (hr : mput k v es = r) (ho : o.op = .insert T m x y ∨ o.op = .mapUpdate T m x y := by first | exact .inl rfl | exact .inr rfl) (hd : o.dst = none := by rfl) (hm : opE env m = some (.own id) := by rfl) (hh : getH heap id = some (.map q es) := by rfl)
    (hx : opE env x = some (.lit k) := by rfl) (hy : opE env y = some (.lit v) := by rfl) (hq : mapQ P T = some (q, et) := by rfl) (hk : keyOk q k = true := by rfl) (hg : guardV env ops o.guard = some true := by rfl)
    (h : RunL P n0 ops.toArray rest ⟨env, (id, some (.map q r)) :: heap, next, nt⟩ Q) : RunL P n0 ops.toArray (o :: rest) ⟨env, heap, next, nt⟩ Q := by
  subst hr
  exact s_insert ho hd hm hh hx hy hq hk hg h
/-- a loop over a map begins: the map is written no more -/
theorem s_rangeMap {T et id d : Nat} {x : Operand} {q : Option IntKind} {es : List (Value × Value)} (ho : o.op = .range T x := by rfl) (hx : opE env x = some (.own id) := by rfl) (hh : getH heap id = some (.map q es) := by rfl) (hq : mapQ P T = some (q, et) := by rfl)
    (hg : guardV env ops o.guard = some true := by rfl) (hd : o.dst = some d := by rfl) (hdn : Nat.blt d nt = true := by rfl) (hn0 : Nat.ble n0 next = true := by rfl)
    (h : RunL P n0 ops.toArray rest ⟨(d, .own next) :: env, (next, some (.iter es none)) :: (id, some (.fmap q es)) :: heap, next + 1, nt⟩ Q) : RunL P n0 ops.toArray (o :: rest) ⟨env, heap, next, nt⟩ Q := by
  obtain ⟨kt, h1, h2⟩ := mapQ_spec hq
  refine l_less (less_fmap (st := ⟨env, heap, next, nt⟩) hh) ?_
  exact l_g hg (gstep_of_at (Nat.le_of_ble_eq_true hn0) (a_rangeMap (T := T) (id := id) (q := q) (es := es) (st := { env := env, heap := (id, some (.fmap q es)) :: heap, next := next + 1, nt := nt }) ho hx (by simp [getH]) h1 hd hdn)) h
theorem s_nextMap {id d : Nat} {x : Operand} {left : List (Value × Value)} {cur : Option (Value × Value)} (ho : o.op = .next x false := by rfl) (hx : opE env x = some (.own id) := by rfl) (hh : getH heap id = some (.iter left cur) := by rfl)
    (hg : guardV env ops o.guard = some true := by rfl) (hd : o.dst = some d := by rfl) (hdn : Nat.blt d nt = true := by rfl)
    (he : left = [] → RunL P n0 ops.toArray rest ⟨(d, .tup [.lit (.bool false)]) :: env, heap, next, nt⟩ Q)
    (h : ∀ i, ∀ h : i < left.length, RunL P n0 ops.toArray rest ⟨(d, .tup [.lit (.bool true), .lit left[i].1, .lit left[i].2]) :: env, (id, some (.iter (left.eraseIdx i) (some left[i]))) :: heap, next, nt⟩ Q) : RunL P n0 ops.toArray (o :: rest) ⟨env, heap, next, nt⟩ Q := by
  refine l_gs hg (g_nextMap (st := ⟨env, heap, next, nt⟩) ho hd hdn hx hh) (fun st' hs => ?_)
  rcases hs with ⟨h0, rfl⟩ | ⟨i, hi, rfl⟩
  · exact he h0
  · exact h i hi
theorem s_entry {id d : Nat} {x : Operand} {left : List (Value × Value)} {kv : Value × Value} (ho : o.op = .entry x := by rfl) (hx : opE env x = some (.own id) := by rfl) (hh : getH heap id = some (.iter left (some kv)) := by rfl)
    (hg : guardV env ops o.guard = some true := by rfl) (hd : o.dst = some d := by rfl) (hdn : Nat.blt d nt = true := by rfl)
    (h : RunL P n0 ops.toArray rest ⟨(d, .tup [.lit kv.1, .lit kv.2]) :: env, heap, next, nt⟩ Q) : RunL P n0 ops.toArray (o :: rest) ⟨env, heap, next, nt⟩ Q :=
  x_q hg hd hdn (q_entry (st := ⟨env, heap, next, nt⟩) (G := []) ho hx hh rfl) h
end
end
end Go.Proofs.Ytendheafcbickaa

/-
  A VALUE CALCULUS OVER THE MODEL, part 29: the steps, as far as they go, as one lemma: what is left is asked for, each with what was learnt on the way. Plain lemmas, over any program.
-/
set_option linter.unusedVariables false
set_option linter.unusedSimpArgs false
set_option linter.unusedVariables false
namespace Go.Proofs.Ytendheafcbickaa
open Go.RowKit
structure Two (a b : Prop) : Prop where
  l : a
  r : b
inductive Ls : Prop → Prop where
  | nil : Ls True
  | cons {a b : Prop} (h : Ls b) : Ls (Two a b)
structure Hld (R : Prop) : Prop where
  out : R
structure UpToR (n : Nat) : Prop where
  t : True
theorem r_seqA {P : Program} {n0 : Nat} {st : St} {n : Nat} {x y : Code} {Q : Exit → St → Prop} (hu : UpToR n) (hn : atR n x = false) (h : Run P n0 x st (ThenQ (fun st' => Run P n0 y st' Q) Q)) : Run P n0 (.seq x y) st Q := r_seqU n hn h
theorem go_ {A R : Prop} (r : R) (k : (Hld R → A) ∧ Ls R := by (refine And.intro (fun k_ => ?_) ?_; (focus ((repeat1' first | refine p_quo (h := ?_) | refine p_rem (h := ?_) | refine r_seq ?_ | refine r_region ?_ | refine r_cond_t rfl ?_ | refine r_cond_f rfl ?_ | refine r_block ?_ | refine r_skip ?_ | refine r_ret ?_ | refine r_exit ?_ | refine l_nil ?_ | refine s_skip (h := ?_) | refine s_nw (h := ?_) | refine s_len (h := ?_) | refine s_lens (h := ?_) | refine s_q (h := ?_) | (refine s_cmp (ht := ?_) (hf := ?_) <;> intro h_ <;> try (exfalso; omega)) | refine s_store (h := ?_) | refine s_box (h := ?_) | refine s_alloc (h := ?_) | refine s_quo (h := ?_) | refine s_rem (h := ?_) | refine s_i (h := ?_) | refine s_i (hq := q_index_ro rfl rfl rfl (by first | exact lit0 | exact lit1 | exact lit2 | exact lit3 | rfl) (by simp only [List.length_cons, List.length_nil]; omega) rfl rfl rfl rfl) (h := ?_) | refine r_drawA ?_ | refine p_nil ?_ | refine p_skip (h := ?_) | refine p_nw (h := ?_) | refine p_len (h := ?_) | refine p_lens (h := ?_) | refine p_q (h := ?_) | refine p_qh (h := ?_) | (refine p_cmp (ht := ?_) (hf := ?_) <;> intro h_ <;> try (exfalso; omega)) | refine p_store (h := ?_) | refine p_box (h := ?_) | refine p_alloc (h := ?_) | refine p_i (h := ?_) | refine p_ih (h := ?_) | refine p_skip0 (h := ?_) | refine s_skip0 (h := ?_) | refine s_nilc (h := ?_) | refine p_nilc (h := ?_) | refine s_bstr (h := ?_) | refine s_lit (h := ?_) | refine p_lit (h := ?_) | refine p_lit0 (h := ?_) | refine s_lit0 (h := ?_) | refine s_ixa (h := ?_) | refine s_func (h := ?_) | refine p_bstr (h := ?_) | (refine s_seql (ht := ?_) (hf := ?_) <;> intro h_ <;> try (exfalso; first | omega | (simp at h_; done) | exact absurd h_ (by assumption) | exact absurd (by assumption) hb_)) | (refine s_sneq (ht := ?_) (hf := ?_) <;> intro h_ <;> try (exfalso; first | omega | (simp at h_; done) | exact absurd h_ (by assumption) | exact absurd (by assumption) hb_)) | (refine s_eqs (ht := ?_) (hf := ?_) <;> intro h_ <;> try (exfalso; first | omega | (simp at h_; done) | exact absurd h_ (by assumption) | exact absurd (by assumption) hb_)) | (refine p_seql (ht := ?_) (hf := ?_) <;> intro h_ <;> try (exfalso; first | omega | (simp at h_; done) | exact absurd h_ (by assumption) | exact absurd (by assumption) hb_)) | (refine p_sneq (ht := ?_) (hf := ?_) <;> intro h_ <;> try (exfalso; first | omega | (simp at h_; done) | exact absurd h_ (by assumption) | exact absurd (by assumption) hb_)) | (refine p_eqs (ht := ?_) (hf := ?_) <;> intro h_ <;> try (exfalso; first | omega | (simp at h_; done) | exact absurd h_ (by assumption) | exact absurd (by assumption) hb_)) | refine thenQ_n ?_ | refine thenQ_r ?_ | refine thenQ_e ?_ | refine blockQ_n ?_ | refine blockQ_r ?_ | refine blockQ_x ?_ | refine blockQ_e rfl ?_ | refine p_shr (h := ?_) | refine p_shl (h := ?_) | (refine s_bytes (h63 := ?_) (h := ?_); (focus (first | omega | (simp only [List.length_append, List.length_map, List.length_cons, List.length_nil, List.length_take, List.length_drop]; omega)))) | (refine p_bytes (h63 := ?_) (h := ?_); (focus (first | omega | (simp only [List.length_append, List.length_map, List.length_cons, List.length_nil, List.length_take, List.length_drop]; omega)))) | refine s_sidx (h := ?_) | refine p_sidx (h := ?_) | refine s_makeMap (h := ?_) | refine s_insert (h := ?_) | refine s_rangeMap (h := ?_) | refine s_entry (h := ?_) | (refine s_beq (ht := ?_) (hf := ?_) <;> intro h_ <;> try (exfalso; simp at h_; done)) | (refine p_beq (ht := ?_) (hf := ?_) <;> intro h_ <;> try (exfalso; simp at h_; done)) | (refine s_bne (ht := ?_) (hf := ?_) <;> intro h_ <;> try (exfalso; simp at h_; done)) | (refine p_bne (ht := ?_) (hf := ?_) <;> intro h_ <;> try (exfalso; simp at h_; done)) | (refine s_sadd rfl ?_ (h := ?_); (focus (first | omega | (simp only [List.length_append, List.length_map, List.length_cons, List.length_nil, List.length_take, List.length_drop]; omega)))) | (refine p_sadd rfl ?_ (h := ?_); (focus (first | omega | (simp only [List.length_append, List.length_map, List.length_cons, List.length_nil, List.length_take, List.length_drop]; omega)))) | fail ""); all_goals ((repeat revert h_); first | with_reducible apply Two.l (Hld.out k_) | with_reducible apply Two.l (Two.r (Hld.out k_)) | with_reducible apply Two.l (Two.r (Two.r (Hld.out k_))) | with_reducible apply Two.l (Two.r (Two.r (Two.r (Hld.out k_)))) | with_reducible apply Two.l (Two.r (Two.r (Two.r (Two.r (Hld.out k_))))) | with_reducible apply Two.l (Two.r (Two.r (Two.r (Two.r (Two.r (Hld.out k_)))))) | with_reducible apply Two.l (Two.r (Two.r (Two.r (Two.r (Two.r (Two.r (Hld.out k_))))))) | with_reducible apply Two.l (Two.r (Two.r (Two.r (Two.r (Two.r (Two.r (Two.r (Hld.out k_)))))))) | with_reducible apply Two.l (Two.r (Two.r (Two.r (Two.r (Two.r (Two.r (Two.r (Two.r (Hld.out k_))))))))) | with_reducible apply Two.l (Two.r (Two.r (Two.r (Two.r (Two.r (Two.r (Two.r (Two.r (Two.r (Hld.out k_)))))))))) | with_reducible apply Two.l (Two.r (Two.r (Two.r (Two.r (Two.r (Two.r (Two.r (Two.r (Two.r (Two.r (Hld.out k_))))))))))) | with_reducible apply Two.l (Two.r (Two.r (Two.r (Two.r (Two.r (Two.r (Two.r (Two.r (Two.r (Two.r (Two.r (Hld.out k_)))))))))))) | with_reducible apply Two.l (Two.r (Two.r (Two.r (Two.r (Two.r (Two.r (Two.r (Two.r (Two.r (Two.r (Two.r (Two.r (Hld.out k_))))))))))))) | with_reducible apply Two.l (Two.r (Two.r (Two.r (Two.r (Two.r (Two.r (Two.r (Two.r (Two.r (Two.r (Two.r (Two.r (Two.r (Hld.out k_)))))))))))))) | with_reducible apply Two.l (Two.r (Two.r (Two.r (Two.r (Two.r (Two.r (Two.r (Two.r (Two.r (Two.r (Two.r (Two.r (Two.r (Two.r (Hld.out k_))))))))))))))) | with_reducible apply Two.l (Two.r (Two.r (Two.r (Two.r (Two.r (Two.r (Two.r (Two.r (Two.r (Two.r (Two.r (Two.r (Two.r (Two.r (Two.r (Hld.out k_)))))))))))))))) | with_reducible apply Two.l (Two.r (Two.r (Two.r (Two.r (Two.r (Two.r (Two.r (Two.r (Two.r (Two.r (Two.r (Two.r (Two.r (Two.r (Two.r (Two.r (Hld.out k_))))))))))))))))) | with_reducible apply Two.l (Two.r (Two.r (Two.r (Two.r (Two.r (Two.r (Two.r (Two.r (Two.r (Two.r (Two.r (Two.r (Two.r (Two.r (Two.r (Two.r (Two.r (Hld.out k_)))))))))))))))))) | with_reducible apply Two.l (Two.r (Two.r (Two.r (Two.r (Two.r (Two.r (Two.r (Two.r (Two.r (Two.r (Two.r (Two.r (Two.r (Two.r (Two.r (Two.r (Two.r (Two.r (Hld.out k_))))))))))))))))))) | with_reducible apply Two.l (Two.r (Two.r (Two.r (Two.r (Two.r (Two.r (Two.r (Two.r (Two.r (Two.r (Two.r (Two.r (Two.r (Two.r (Two.r (Two.r (Two.r (Two.r (Two.r (Hld.out k_)))))))))))))))))))) | with_reducible apply Two.l (Two.r (Two.r (Two.r (Two.r (Two.r (Two.r (Two.r (Two.r (Two.r (Two.r (Two.r (Two.r (Two.r (Two.r (Two.r (Two.r (Two.r (Two.r (Two.r (Two.r (Hld.out k_))))))))))))))))))))) | with_reducible apply Two.l (Two.r (Two.r (Two.r (Two.r (Two.r (Two.r (Two.r (Two.r (Two.r (Two.r (Two.r (Two.r (Two.r (Two.r (Two.r (Two.r (Two.r (Two.r (Two.r (Two.r (Two.r (Hld.out k_)))))))))))))))))))))) | with_reducible apply Two.l (Two.r (Two.r (Two.r (Two.r (Two.r (Two.r (Two.r (Two.r (Two.r (Two.r (Two.r (Two.r (Two.r (Two.r (Two.r (Two.r (Two.r (Two.r (Two.r (Two.r (Two.r (Two.r (Hld.out k_))))))))))))))))))))))) | with_reducible apply Two.l (Two.r (Two.r (Two.r (Two.r (Two.r (Two.r (Two.r (Two.r (Two.r (Two.r (Two.r (Two.r (Two.r (Two.r (Two.r (Two.r (Two.r (Two.r (Two.r (Two.r (Two.r (Two.r (Two.r (Hld.out k_)))))))))))))))))))))))) | with_reducible apply Two.l (Two.r (Two.r (Two.r (Two.r (Two.r (Two.r (Two.r (Two.r (Two.r (Two.r (Two.r (Two.r (Two.r (Two.r (Two.r (Two.r (Two.r (Two.r (Two.r (Two.r (Two.r (Two.r (Two.r (Two.r (Hld.out k_))))))))))))))))))))))))) | with_reducible apply Two.l (Two.r (Two.r (Two.r (Two.r (Two.r (Two.r (Two.r (Two.r (Two.r (Two.r (Two.r (Two.r (Two.r (Two.r (Two.r (Two.r (Two.r (Two.r (Two.r (Two.r (Two.r (Two.r (Two.r (Two.r (Two.r (Hld.out k_)))))))))))))))))))))))))) | with_reducible apply Two.l (Two.r (Two.r (Two.r (Two.r (Two.r (Two.r (Two.r (Two.r (Two.r (Two.r (Two.r (Two.r (Two.r (Two.r (Two.r (Two.r (Two.r (Two.r (Two.r (Two.r (Two.r (Two.r (Two.r (Two.r (Two.r (Two.r (Hld.out k_))))))))))))))))))))))))))) | with_reducible apply Two.l (Two.r (Two.r (Two.r (Two.r (Two.r (Two.r (Two.r (Two.r (Two.r (Two.r (Two.r (Two.r (Two.r (Two.r (Two.r (Two.r (Two.r (Two.r (Two.r (Two.r (Two.r (Two.r (Two.r (Two.r (Two.r (Two.r (Two.r (Hld.out k_)))))))))))))))))))))))))))) | with_reducible apply Two.l (Two.r (Two.r (Two.r (Two.r (Two.r (Two.r (Two.r (Two.r (Two.r (Two.r (Two.r (Two.r (Two.r (Two.r (Two.r (Two.r (Two.r (Two.r (Two.r (Two.r (Two.r (Two.r (Two.r (Two.r (Two.r (Two.r (Two.r (Two.r (Hld.out k_))))))))))))))))))))))))))))) | with_reducible apply Two.l (Two.r (Two.r (Two.r (Two.r (Two.r (Two.r (Two.r (Two.r (Two.r (Two.r (Two.r (Two.r (Two.r (Two.r (Two.r (Two.r (Two.r (Two.r (Two.r (Two.r (Two.r (Two.r (Two.r (Two.r (Two.r (Two.r (Two.r (Two.r (Two.r (Hld.out k_)))))))))))))))))))))))))))))) | with_reducible apply Two.l (Two.r (Two.r (Two.r (Two.r (Two.r (Two.r (Two.r (Two.r (Two.r (Two.r (Two.r (Two.r (Two.r (Two.r (Two.r (Two.r (Two.r (Two.r (Two.r (Two.r (Two.r (Two.r (Two.r (Two.r (Two.r (Two.r (Two.r (Two.r (Two.r (Two.r (Hld.out k_))))))))))))))))))))))))))))))) | with_reducible apply Two.l (Two.r (Two.r (Two.r (Two.r (Two.r (Two.r (Two.r (Two.r (Two.r (Two.r (Two.r (Two.r (Two.r (Two.r (Two.r (Two.r (Two.r (Two.r (Two.r (Two.r (Two.r (Two.r (Two.r (Two.r (Two.r (Two.r (Two.r (Two.r (Two.r (Two.r (Two.r (Hld.out k_)))))))))))))))))))))))))))))))) | with_reducible apply Two.l (Two.r (Two.r (Two.r (Two.r (Two.r (Two.r (Two.r (Two.r (Two.r (Two.r (Two.r (Two.r (Two.r (Two.r (Two.r (Two.r (Two.r (Two.r (Two.r (Two.r (Two.r (Two.r (Two.r (Two.r (Two.r (Two.r (Two.r (Two.r (Two.r (Two.r (Two.r (Two.r (Hld.out k_))))))))))))))))))))))))))))))))) | with_reducible apply Two.l (Two.r (Two.r (Two.r (Two.r (Two.r (Two.r (Two.r (Two.r (Two.r (Two.r (Two.r (Two.r (Two.r (Two.r (Two.r (Two.r (Two.r (Two.r (Two.r (Two.r (Two.r (Two.r (Two.r (Two.r (Two.r (Two.r (Two.r (Two.r (Two.r (Two.r (Two.r (Two.r (Two.r (Hld.out k_)))))))))))))))))))))))))))))))))) | with_reducible apply Two.l (Two.r (Two.r (Two.r (Two.r (Two.r (Two.r (Two.r (Two.r (Two.r (Two.r (Two.r (Two.r (Two.r (Two.r (Two.r (Two.r (Two.r (Two.r (Two.r (Two.r (Two.r (Two.r (Two.r (Two.r (Two.r (Two.r (Two.r (Two.r (Two.r (Two.r (Two.r (Two.r (Two.r (Two.r (Hld.out k_))))))))))))))))))))))))))))))))))) | with_reducible apply Two.l (Two.r (Two.r (Two.r (Two.r (Two.r (Two.r (Two.r (Two.r (Two.r (Two.r (Two.r (Two.r (Two.r (Two.r (Two.r (Two.r (Two.r (Two.r (Two.r (Two.r (Two.r (Two.r (Two.r (Two.r (Two.r (Two.r (Two.r (Two.r (Two.r (Two.r (Two.r (Two.r (Two.r (Two.r (Two.r (Hld.out k_)))))))))))))))))))))))))))))))))))) | with_reducible apply Two.l (Two.r (Two.r (Two.r (Two.r (Two.r (Two.r (Two.r (Two.r (Two.r (Two.r (Two.r (Two.r (Two.r (Two.r (Two.r (Two.r (Two.r (Two.r (Two.r (Two.r (Two.r (Two.r (Two.r (Two.r (Two.r (Two.r (Two.r (Two.r (Two.r (Two.r (Two.r (Two.r (Two.r (Two.r (Two.r (Two.r (Hld.out k_))))))))))))))))))))))))))))))))))))) | with_reducible apply Two.l (Two.r (Two.r (Two.r (Two.r (Two.r (Two.r (Two.r (Two.r (Two.r (Two.r (Two.r (Two.r (Two.r (Two.r (Two.r (Two.r (Two.r (Two.r (Two.r (Two.r (Two.r (Two.r (Two.r (Two.r (Two.r (Two.r (Two.r (Two.r (Two.r (Two.r (Two.r (Two.r (Two.r (Two.r (Two.r (Two.r (Two.r (Hld.out k_)))))))))))))))))))))))))))))))))))))) | with_reducible apply Two.l (Two.r (Two.r (Two.r (Two.r (Two.r (Two.r (Two.r (Two.r (Two.r (Two.r (Two.r (Two.r (Two.r (Two.r (Two.r (Two.r (Two.r (Two.r (Two.r (Two.r (Two.r (Two.r (Two.r (Two.r (Two.r (Two.r (Two.r (Two.r (Two.r (Two.r (Two.r (Two.r (Two.r (Two.r (Two.r (Two.r (Two.r (Two.r (Hld.out k_))))))))))))))))))))))))))))))))))))))) | with_reducible apply Two.l (Two.r (Two.r (Two.r (Two.r (Two.r (Two.r (Two.r (Two.r (Two.r (Two.r (Two.r (Two.r (Two.r (Two.r (Two.r (Two.r (Two.r (Two.r (Two.r (Two.r (Two.r (Two.r (Two.r (Two.r (Two.r (Two.r (Two.r (Two.r (Two.r (Two.r (Two.r (Two.r (Two.r (Two.r (Two.r (Two.r (Two.r (Two.r (Two.r (Hld.out k_))))))))))))))))))))))))))))))))))))))))))); (all_goals try (repeat' first | exact Ls.nil | apply Ls.cons)))) : A := k.1 ⟨r⟩
theorem goS_ {A R : Prop} (r : R) (k : (Hld R → A) ∧ Ls R := by (refine And.intro (fun k_ => ?_) ?_; (focus ((repeat1' first | refine p_quo (h := ?_) | refine p_rem (h := ?_) | refine l_nil ?_ | refine s_skip (h := ?_) | refine s_nw (h := ?_) | refine s_len (h := ?_) | refine s_lens (h := ?_) | refine s_q (h := ?_) | (refine s_cmp (ht := ?_) (hf := ?_) <;> intro h_ <;> try (exfalso; omega)) | refine s_store (h := ?_) | refine s_box (h := ?_) | refine s_alloc (h := ?_) | refine s_quo (h := ?_) | refine s_rem (h := ?_) | refine s_i (h := ?_) | refine s_i (hq := q_index_ro rfl rfl rfl (by first | exact lit0 | exact lit1 | exact lit2 | exact lit3 | rfl) (by simp only [List.length_cons, List.length_nil]; omega) rfl rfl rfl rfl) (h := ?_) | refine p_nil ?_ | refine p_skip (h := ?_) | refine p_nw (h := ?_) | refine p_len (h := ?_) | refine p_lens (h := ?_) | refine p_q (h := ?_) | refine p_qh (h := ?_) | (refine p_cmp (ht := ?_) (hf := ?_) <;> intro h_ <;> try (exfalso; omega)) | refine p_store (h := ?_) | refine p_box (h := ?_) | refine p_alloc (h := ?_) | refine p_i (h := ?_) | refine p_ih (h := ?_) | refine p_skip0 (h := ?_) | refine s_skip0 (h := ?_) | refine s_nilc (h := ?_) | refine p_nilc (h := ?_) | refine s_bstr (h := ?_) | refine s_lit (h := ?_) | refine p_lit (h := ?_) | refine p_lit0 (h := ?_) | refine s_lit0 (h := ?_) | refine s_ixa (h := ?_) | refine s_func (h := ?_) | refine p_bstr (h := ?_) | (refine s_seql (ht := ?_) (hf := ?_) <;> intro h_ <;> try (exfalso; first | omega | (simp at h_; done) | exact absurd h_ (by assumption) | exact absurd (by assumption) hb_)) | (refine s_sneq (ht := ?_) (hf := ?_) <;> intro h_ <;> try (exfalso; first | omega | (simp at h_; done) | exact absurd h_ (by assumption) | exact absurd (by assumption) hb_)) | (refine s_eqs (ht := ?_) (hf := ?_) <;> intro h_ <;> try (exfalso; first | omega | (simp at h_; done) | exact absurd h_ (by assumption) | exact absurd (by assumption) hb_)) | (refine p_seql (ht := ?_) (hf := ?_) <;> intro h_ <;> try (exfalso; first | omega | (simp at h_; done) | exact absurd h_ (by assumption) | exact absurd (by assumption) hb_)) | (refine p_sneq (ht := ?_) (hf := ?_) <;> intro h_ <;> try (exfalso; first | omega | (simp at h_; done) | exact absurd h_ (by assumption) | exact absurd (by assumption) hb_)) | (refine p_eqs (ht := ?_) (hf := ?_) <;> intro h_ <;> try (exfalso; first | omega | (simp at h_; done) | exact absurd h_ (by assumption) | exact absurd (by assumption) hb_)) | refine p_shr (h := ?_) | refine p_shl (h := ?_) | (refine s_bytes (h63 := ?_) (h := ?_); (focus (first | omega | (simp only [List.length_append, List.length_map, List.length_cons, List.length_nil, List.length_take, List.length_drop]; omega)))) | (refine p_bytes (h63 := ?_) (h := ?_); (focus (first | omega | (simp only [List.length_append, List.length_map, List.length_cons, List.length_nil, List.length_take, List.length_drop]; omega)))) | refine s_sidx (h := ?_) | refine p_sidx (h := ?_) | refine s_makeMap (h := ?_) | refine s_insert (h := ?_) | refine s_rangeMap (h := ?_) | refine s_entry (h := ?_) | (refine s_beq (ht := ?_) (hf := ?_) <;> intro h_ <;> try (exfalso; simp at h_; done)) | (refine p_beq (ht := ?_) (hf := ?_) <;> intro h_ <;> try (exfalso; simp at h_; done)) | (refine s_bne (ht := ?_) (hf := ?_) <;> intro h_ <;> try (exfalso; simp at h_; done)) | (refine p_bne (ht := ?_) (hf := ?_) <;> intro h_ <;> try (exfalso; simp at h_; done)) | (refine s_sadd rfl ?_ (h := ?_); (focus (first | omega | (simp only [List.length_append, List.length_map, List.length_cons, List.length_nil, List.length_take, List.length_drop]; omega)))) | (refine p_sadd rfl ?_ (h := ?_); (focus (first | omega | (simp only [List.length_append, List.length_map, List.length_cons, List.length_nil, List.length_take, List.length_drop]; omega)))) | fail ""); all_goals ((repeat revert h_); first | with_reducible apply Two.l (Hld.out k_) | with_reducible apply Two.l (Two.r (Hld.out k_)) | with_reducible apply Two.l (Two.r (Two.r (Hld.out k_))) | with_reducible apply Two.l (Two.r (Two.r (Two.r (Hld.out k_)))) | with_reducible apply Two.l (Two.r (Two.r (Two.r (Two.r (Hld.out k_))))) | with_reducible apply Two.l (Two.r (Two.r (Two.r (Two.r (Two.r (Hld.out k_)))))) | with_reducible apply Two.l (Two.r (Two.r (Two.r (Two.r (Two.r (Two.r (Hld.out k_))))))) | with_reducible apply Two.l (Two.r (Two.r (Two.r (Two.r (Two.r (Two.r (Two.r (Hld.out k_)))))))) | with_reducible apply Two.l (Two.r (Two.r (Two.r (Two.r (Two.r (Two.r (Two.r (Two.r (Hld.out k_))))))))) | with_reducible apply Two.l (Two.r (Two.r (Two.r (Two.r (Two.r (Two.r (Two.r (Two.r (Two.r (Hld.out k_)))))))))) | with_reducible apply Two.l (Two.r (Two.r (Two.r (Two.r (Two.r (Two.r (Two.r (Two.r (Two.r (Two.r (Hld.out k_))))))))))) | with_reducible apply Two.l (Two.r (Two.r (Two.r (Two.r (Two.r (Two.r (Two.r (Two.r (Two.r (Two.r (Two.r (Hld.out k_)))))))))))) | with_reducible apply Two.l (Two.r (Two.r (Two.r (Two.r (Two.r (Two.r (Two.r (Two.r (Two.r (Two.r (Two.r (Two.r (Hld.out k_))))))))))))) | with_reducible apply Two.l (Two.r (Two.r (Two.r (Two.r (Two.r (Two.r (Two.r (Two.r (Two.r (Two.r (Two.r (Two.r (Two.r (Hld.out k_)))))))))))))) | with_reducible apply Two.l (Two.r (Two.r (Two.r (Two.r (Two.r (Two.r (Two.r (Two.r (Two.r (Two.r (Two.r (Two.r (Two.r (Two.r (Hld.out k_))))))))))))))) | with_reducible apply Two.l (Two.r (Two.r (Two.r (Two.r (Two.r (Two.r (Two.r (Two.r (Two.r (Two.r (Two.r (Two.r (Two.r (Two.r (Two.r (Hld.out k_)))))))))))))))) | with_reducible apply Two.l (Two.r (Two.r (Two.r (Two.r (Two.r (Two.r (Two.r (Two.r (Two.r (Two.r (Two.r (Two.r (Two.r (Two.r (Two.r (Two.r (Hld.out k_))))))))))))))))) | with_reducible apply Two.l (Two.r (Two.r (Two.r (Two.r (Two.r (Two.r (Two.r (Two.r (Two.r (Two.r (Two.r (Two.r (Two.r (Two.r (Two.r (Two.r (Two.r (Hld.out k_)))))))))))))))))) | with_reducible apply Two.l (Two.r (Two.r (Two.r (Two.r (Two.r (Two.r (Two.r (Two.r (Two.r (Two.r (Two.r (Two.r (Two.r (Two.r (Two.r (Two.r (Two.r (Two.r (Hld.out k_))))))))))))))))))) | with_reducible apply Two.l (Two.r (Two.r (Two.r (Two.r (Two.r (Two.r (Two.r (Two.r (Two.r (Two.r (Two.r (Two.r (Two.r (Two.r (Two.r (Two.r (Two.r (Two.r (Two.r (Hld.out k_)))))))))))))))))))) | with_reducible apply Two.l (Two.r (Two.r (Two.r (Two.r (Two.r (Two.r (Two.r (Two.r (Two.r (Two.r (Two.r (Two.r (Two.r (Two.r (Two.r (Two.r (Two.r (Two.r (Two.r (Two.r (Hld.out k_))))))))))))))))))))) | with_reducible apply Two.l (Two.r (Two.r (Two.r (Two.r (Two.r (Two.r (Two.r (Two.r (Two.r (Two.r (Two.r (Two.r (Two.r (Two.r (Two.r (Two.r (Two.r (Two.r (Two.r (Two.r (Two.r (Hld.out k_)))))))))))))))))))))) | with_reducible apply Two.l (Two.r (Two.r (Two.r (Two.r (Two.r (Two.r (Two.r (Two.r (Two.r (Two.r (Two.r (Two.r (Two.r (Two.r (Two.r (Two.r (Two.r (Two.r (Two.r (Two.r (Two.r (Two.r (Hld.out k_))))))))))))))))))))))) | with_reducible apply Two.l (Two.r (Two.r (Two.r (Two.r (Two.r (Two.r (Two.r (Two.r (Two.r (Two.r (Two.r (Two.r (Two.r (Two.r (Two.r (Two.r (Two.r (Two.r (Two.r (Two.r (Two.r (Two.r (Two.r (Hld.out k_)))))))))))))))))))))))) | with_reducible apply Two.l (Two.r (Two.r (Two.r (Two.r (Two.r (Two.r (Two.r (Two.r (Two.r (Two.r (Two.r (Two.r (Two.r (Two.r (Two.r (Two.r (Two.r (Two.r (Two.r (Two.r (Two.r (Two.r (Two.r (Two.r (Hld.out k_))))))))))))))))))))))))) | with_reducible apply Two.l (Two.r (Two.r (Two.r (Two.r (Two.r (Two.r (Two.r (Two.r (Two.r (Two.r (Two.r (Two.r (Two.r (Two.r (Two.r (Two.r (Two.r (Two.r (Two.r (Two.r (Two.r (Two.r (Two.r (Two.r (Two.r (Hld.out k_)))))))))))))))))))))))))) | with_reducible apply Two.l (Two.r (Two.r (Two.r (Two.r (Two.r (Two.r (Two.r (Two.r (Two.r (Two.r (Two.r (Two.r (Two.r (Two.r (Two.r (Two.r (Two.r (Two.r (Two.r (Two.r (Two.r (Two.r (Two.r (Two.r (Two.r (Two.r (Hld.out k_))))))))))))))))))))))))))) | with_reducible apply Two.l (Two.r (Two.r (Two.r (Two.r (Two.r (Two.r (Two.r (Two.r (Two.r (Two.r (Two.r (Two.r (Two.r (Two.r (Two.r (Two.r (Two.r (Two.r (Two.r (Two.r (Two.r (Two.r (Two.r (Two.r (Two.r (Two.r (Two.r (Hld.out k_)))))))))))))))))))))))))))) | with_reducible apply Two.l (Two.r (Two.r (Two.r (Two.r (Two.r (Two.r (Two.r (Two.r (Two.r (Two.r (Two.r (Two.r (Two.r (Two.r (Two.r (Two.r (Two.r (Two.r (Two.r (Two.r (Two.r (Two.r (Two.r (Two.r (Two.r (Two.r (Two.r (Two.r (Hld.out k_))))))))))))))))))))))))))))) | with_reducible apply Two.l (Two.r (Two.r (Two.r (Two.r (Two.r (Two.r (Two.r (Two.r (Two.r (Two.r (Two.r (Two.r (Two.r (Two.r (Two.r (Two.r (Two.r (Two.r (Two.r (Two.r (Two.r (Two.r (Two.r (Two.r (Two.r (Two.r (Two.r (Two.r (Two.r (Hld.out k_)))))))))))))))))))))))))))))) | with_reducible apply Two.l (Two.r (Two.r (Two.r (Two.r (Two.r (Two.r (Two.r (Two.r (Two.r (Two.r (Two.r (Two.r (Two.r (Two.r (Two.r (Two.r (Two.r (Two.r (Two.r (Two.r (Two.r (Two.r (Two.r (Two.r (Two.r (Two.r (Two.r (Two.r (Two.r (Two.r (Hld.out k_))))))))))))))))))))))))))))))) | with_reducible apply Two.l (Two.r (Two.r (Two.r (Two.r (Two.r (Two.r (Two.r (Two.r (Two.r (Two.r (Two.r (Two.r (Two.r (Two.r (Two.r (Two.r (Two.r (Two.r (Two.r (Two.r (Two.r (Two.r (Two.r (Two.r (Two.r (Two.r (Two.r (Two.r (Two.r (Two.r (Two.r (Hld.out k_)))))))))))))))))))))))))))))))) | with_reducible apply Two.l (Two.r (Two.r (Two.r (Two.r (Two.r (Two.r (Two.r (Two.r (Two.r (Two.r (Two.r (Two.r (Two.r (Two.r (Two.r (Two.r (Two.r (Two.r (Two.r (Two.r (Two.r (Two.r (Two.r (Two.r (Two.r (Two.r (Two.r (Two.r (Two.r (Two.r (Two.r (Two.r (Hld.out k_))))))))))))))))))))))))))))))))) | with_reducible apply Two.l (Two.r (Two.r (Two.r (Two.r (Two.r (Two.r (Two.r (Two.r (Two.r (Two.r (Two.r (Two.r (Two.r (Two.r (Two.r (Two.r (Two.r (Two.r (Two.r (Two.r (Two.r (Two.r (Two.r (Two.r (Two.r (Two.r (Two.r (Two.r (Two.r (Two.r (Two.r (Two.r (Two.r (Hld.out k_)))))))))))))))))))))))))))))))))) | with_reducible apply Two.l (Two.r (Two.r (Two.r (Two.r (Two.r (Two.r (Two.r (Two.r (Two.r (Two.r (Two.r (Two.r (Two.r (Two.r (Two.r (Two.r (Two.r (Two.r (Two.r (Two.r (Two.r (Two.r (Two.r (Two.r (Two.r (Two.r (Two.r (Two.r (Two.r (Two.r (Two.r (Two.r (Two.r (Two.r (Hld.out k_))))))))))))))))))))))))))))))))))) | with_reducible apply Two.l (Two.r (Two.r (Two.r (Two.r (Two.r (Two.r (Two.r (Two.r (Two.r (Two.r (Two.r (Two.r (Two.r (Two.r (Two.r (Two.r (Two.r (Two.r (Two.r (Two.r (Two.r (Two.r (Two.r (Two.r (Two.r (Two.r (Two.r (Two.r (Two.r (Two.r (Two.r (Two.r (Two.r (Two.r (Two.r (Hld.out k_)))))))))))))))))))))))))))))))))))) | with_reducible apply Two.l (Two.r (Two.r (Two.r (Two.r (Two.r (Two.r (Two.r (Two.r (Two.r (Two.r (Two.r (Two.r (Two.r (Two.r (Two.r (Two.r (Two.r (Two.r (Two.r (Two.r (Two.r (Two.r (Two.r (Two.r (Two.r (Two.r (Two.r (Two.r (Two.r (Two.r (Two.r (Two.r (Two.r (Two.r (Two.r (Two.r (Hld.out k_))))))))))))))))))))))))))))))))))))) | with_reducible apply Two.l (Two.r (Two.r (Two.r (Two.r (Two.r (Two.r (Two.r (Two.r (Two.r (Two.r (Two.r (Two.r (Two.r (Two.r (Two.r (Two.r (Two.r (Two.r (Two.r (Two.r (Two.r (Two.r (Two.r (Two.r (Two.r (Two.r (Two.r (Two.r (Two.r (Two.r (Two.r (Two.r (Two.r (Two.r (Two.r (Two.r (Two.r (Hld.out k_)))))))))))))))))))))))))))))))))))))) | with_reducible apply Two.l (Two.r (Two.r (Two.r (Two.r (Two.r (Two.r (Two.r (Two.r (Two.r (Two.r (Two.r (Two.r (Two.r (Two.r (Two.r (Two.r (Two.r (Two.r (Two.r (Two.r (Two.r (Two.r (Two.r (Two.r (Two.r (Two.r (Two.r (Two.r (Two.r (Two.r (Two.r (Two.r (Two.r (Two.r (Two.r (Two.r (Two.r (Two.r (Hld.out k_))))))))))))))))))))))))))))))))))))))) | with_reducible apply Two.l (Two.r (Two.r (Two.r (Two.r (Two.r (Two.r (Two.r (Two.r (Two.r (Two.r (Two.r (Two.r (Two.r (Two.r (Two.r (Two.r (Two.r (Two.r (Two.r (Two.r (Two.r (Two.r (Two.r (Two.r (Two.r (Two.r (Two.r (Two.r (Two.r (Two.r (Two.r (Two.r (Two.r (Two.r (Two.r (Two.r (Two.r (Two.r (Two.r (Hld.out k_))))))))))))))))))))))))))))))))))))))))))); (all_goals try (repeat' first | exact Ls.nil | apply Ls.cons)))) : A := k.1 ⟨r⟩
theorem goI_ {A R : Prop} (r : R) (k : (Hld R → A) ∧ Ls R := by (refine And.intro (fun k_ => ?_) ?_; (focus ((repeat1' first | refine p_quo (h := ?_) | refine p_rem (h := ?_) | refine r_seq ?_ | refine r_region ?_ | refine r_cond_t rfl ?_ | refine r_cond_f rfl ?_ | refine r_block ?_ | refine r_skip ?_ | refine r_ret ?_ | refine r_exit ?_ | refine l_nil ?_ | refine s_skip (h := ?_) | refine s_nw (h := ?_) | refine s_len (h := ?_) | refine s_lens (h := ?_) | refine s_q (h := ?_) | (refine s_cmp (ht := ?_) (hf := ?_) <;> intro h_ <;> try (exfalso; omega)) | refine s_store (h := ?_) | refine s_box (h := ?_) | refine s_alloc (h := ?_) | refine s_quo (h := ?_) | refine s_rem (h := ?_) | refine r_drawA ?_ | refine p_nil ?_ | refine p_skip (h := ?_) | refine p_nw (h := ?_) | refine p_len (h := ?_) | refine p_lens (h := ?_) | refine p_q (h := ?_) | refine p_qh (h := ?_) | (refine p_cmp (ht := ?_) (hf := ?_) <;> intro h_ <;> try (exfalso; omega)) | refine p_store (h := ?_) | refine p_box (h := ?_) | refine p_alloc (h := ?_) | refine p_skip0 (h := ?_) | refine s_skip0 (h := ?_) | refine s_nilc (h := ?_) | refine p_nilc (h := ?_) | refine s_bstr (h := ?_) | refine s_func (h := ?_) | refine p_bstr (h := ?_) | (refine s_seql (ht := ?_) (hf := ?_) <;> intro h_ <;> try (exfalso; first | omega | (simp at h_; done) | exact absurd h_ (by assumption) | exact absurd (by assumption) hb_)) | (refine s_sneq (ht := ?_) (hf := ?_) <;> intro h_ <;> try (exfalso; first | omega | (simp at h_; done) | exact absurd h_ (by assumption) | exact absurd (by assumption) hb_)) | (refine s_eqs (ht := ?_) (hf := ?_) <;> intro h_ <;> try (exfalso; first | omega | (simp at h_; done) | exact absurd h_ (by assumption) | exact absurd (by assumption) hb_)) | (refine p_seql (ht := ?_) (hf := ?_) <;> intro h_ <;> try (exfalso; first | omega | (simp at h_; done) | exact absurd h_ (by assumption) | exact absurd (by assumption) hb_)) | (refine p_sneq (ht := ?_) (hf := ?_) <;> intro h_ <;> try (exfalso; first | omega | (simp at h_; done) | exact absurd h_ (by assumption) | exact absurd (by assumption) hb_)) | (refine p_eqs (ht := ?_) (hf := ?_) <;> intro h_ <;> try (exfalso; first | omega | (simp at h_; done) | exact absurd h_ (by assumption) | exact absurd (by assumption) hb_)) | refine thenQ_n ?_ | refine thenQ_r ?_ | refine thenQ_e ?_ | refine blockQ_n ?_ | refine blockQ_r ?_ | refine blockQ_x ?_ | refine blockQ_e rfl ?_ | refine p_shr (h := ?_) | refine p_shl (h := ?_) | (refine s_bytes (h63 := ?_) (h := ?_); (focus (first | omega | (simp only [List.length_append, List.length_map, List.length_cons, List.length_nil, List.length_take, List.length_drop]; omega)))) | (refine p_bytes (h63 := ?_) (h := ?_); (focus (first | omega | (simp only [List.length_append, List.length_map, List.length_cons, List.length_nil, List.length_take, List.length_drop]; omega)))) | refine s_sidx (h := ?_) | refine p_sidx (h := ?_) | refine s_makeMap (h := ?_) | refine s_rangeMap (h := ?_) | refine s_entry (h := ?_) | (refine s_beq (ht := ?_) (hf := ?_) <;> intro h_ <;> try (exfalso; simp at h_; done)) | (refine p_beq (ht := ?_) (hf := ?_) <;> intro h_ <;> try (exfalso; simp at h_; done)) | (refine s_bne (ht := ?_) (hf := ?_) <;> intro h_ <;> try (exfalso; simp at h_; done)) | (refine p_bne (ht := ?_) (hf := ?_) <;> intro h_ <;> try (exfalso; simp at h_; done)) | fail ""); all_goals ((repeat revert h_); first | with_reducible apply Two.l (Hld.out k_) | with_reducible apply Two.l (Two.r (Hld.out k_)) | with_reducible apply Two.l (Two.r (Two.r (Hld.out k_))) | with_reducible apply Two.l (Two.r (Two.r (Two.r (Hld.out k_)))) | with_reducible apply Two.l (Two.r (Two.r (Two.r (Two.r (Hld.out k_))))) | with_reducible apply Two.l (Two.r (Two.r (Two.r (Two.r (Two.r (Hld.out k_)))))) | with_reducible apply Two.l (Two.r (Two.r (Two.r (Two.r (Two.r (Two.r (Hld.out k_))))))) | with_reducible apply Two.l (Two.r (Two.r (Two.r (Two.r (Two.r (Two.r (Two.r (Hld.out k_)))))))) | with_reducible apply Two.l (Two.r (Two.r (Two.r (Two.r (Two.r (Two.r (Two.r (Two.r (Hld.out k_))))))))) | with_reducible apply Two.l (Two.r (Two.r (Two.r (Two.r (Two.r (Two.r (Two.r (Two.r (Two.r (Hld.out k_)))))))))) | with_reducible apply Two.l (Two.r (Two.r (Two.r (Two.r (Two.r (Two.r (Two.r (Two.r (Two.r (Two.r (Hld.out k_))))))))))) | with_reducible apply Two.l (Two.r (Two.r (Two.r (Two.r (Two.r (Two.r (Two.r (Two.r (Two.r (Two.r (Two.r (Hld.out k_)))))))))))) | with_reducible apply Two.l (Two.r (Two.r (Two.r (Two.r (Two.r (Two.r (Two.r (Two.r (Two.r (Two.r (Two.r (Two.r (Hld.out k_))))))))))))) | with_reducible apply Two.l (Two.r (Two.r (Two.r (Two.r (Two.r (Two.r (Two.r (Two.r (Two.r (Two.r (Two.r (Two.r (Two.r (Hld.out k_)))))))))))))) | with_reducible apply Two.l (Two.r (Two.r (Two.r (Two.r (Two.r (Two.r (Two.r (Two.r (Two.r (Two.r (Two.r (Two.r (Two.r (Two.r (Hld.out k_))))))))))))))) | with_reducible apply Two.l (Two.r (Two.r (Two.r (Two.r (Two.r (Two.r (Two.r (Two.r (Two.r (Two.r (Two.r (Two.r (Two.r (Two.r (Two.r (Hld.out k_)))))))))))))))) | with_reducible apply Two.l (Two.r (Two.r (Two.r (Two.r (Two.r (Two.r (Two.r (Two.r (Two.r (Two.r (Two.r (Two.r (Two.r (Two.r (Two.r (Two.r (Hld.out k_))))))))))))))))) | with_reducible apply Two.l (Two.r (Two.r (Two.r (Two.r (Two.r (Two.r (Two.r (Two.r (Two.r (Two.r (Two.r (Two.r (Two.r (Two.r (Two.r (Two.r (Two.r (Hld.out k_)))))))))))))))))) | with_reducible apply Two.l (Two.r (Two.r (Two.r (Two.r (Two.r (Two.r (Two.r (Two.r (Two.r (Two.r (Two.r (Two.r (Two.r (Two.r (Two.r (Two.r (Two.r (Two.r (Hld.out k_))))))))))))))))))) | with_reducible apply Two.l (Two.r (Two.r (Two.r (Two.r (Two.r (Two.r (Two.r (Two.r (Two.r (Two.r (Two.r (Two.r (Two.r (Two.r (Two.r (Two.r (Two.r (Two.r (Two.r (Hld.out k_)))))))))))))))))))) | with_reducible apply Two.l (Two.r (Two.r (Two.r (Two.r (Two.r (Two.r (Two.r (Two.r (Two.r (Two.r (Two.r (Two.r (Two.r (Two.r (Two.r (Two.r (Two.r (Two.r (Two.r (Two.r (Hld.out k_))))))))))))))))))))) | with_reducible apply Two.l (Two.r (Two.r (Two.r (Two.r (Two.r (Two.r (Two.r (Two.r (Two.r (Two.r (Two.r (Two.r (Two.r (Two.r (Two.r (Two.r (Two.r (Two.r (Two.r (Two.r (Two.r (Hld.out k_)))))))))))))))))))))) | with_reducible apply Two.l (Two.r (Two.r (Two.r (Two.r (Two.r (Two.r (Two.r (Two.r (Two.r (Two.r (Two.r (Two.r (Two.r (Two.r (Two.r (Two.r (Two.r (Two.r (Two.r (Two.r (Two.r (Two.r (Hld.out k_))))))))))))))))))))))) | with_reducible apply Two.l (Two.r (Two.r (Two.r (Two.r (Two.r (Two.r (Two.r (Two.r (Two.r (Two.r (Two.r (Two.r (Two.r (Two.r (Two.r (Two.r (Two.r (Two.r (Two.r (Two.r (Two.r (Two.r (Two.r (Hld.out k_)))))))))))))))))))))))) | with_reducible apply Two.l (Two.r (Two.r (Two.r (Two.r (Two.r (Two.r (Two.r (Two.r (Two.r (Two.r (Two.r (Two.r (Two.r (Two.r (Two.r (Two.r (Two.r (Two.r (Two.r (Two.r (Two.r (Two.r (Two.r (Two.r (Hld.out k_))))))))))))))))))))))))) | with_reducible apply Two.l (Two.r (Two.r (Two.r (Two.r (Two.r (Two.r (Two.r (Two.r (Two.r (Two.r (Two.r (Two.r (Two.r (Two.r (Two.r (Two.r (Two.r (Two.r (Two.r (Two.r (Two.r (Two.r (Two.r (Two.r (Two.r (Hld.out k_)))))))))))))))))))))))))) | with_reducible apply Two.l (Two.r (Two.r (Two.r (Two.r (Two.r (Two.r (Two.r (Two.r (Two.r (Two.r (Two.r (Two.r (Two.r (Two.r (Two.r (Two.r (Two.r (Two.r (Two.r (Two.r (Two.r (Two.r (Two.r (Two.r (Two.r (Two.r (Hld.out k_))))))))))))))))))))))))))) | with_reducible apply Two.l (Two.r (Two.r (Two.r (Two.r (Two.r (Two.r (Two.r (Two.r (Two.r (Two.r (Two.r (Two.r (Two.r (Two.r (Two.r (Two.r (Two.r (Two.r (Two.r (Two.r (Two.r (Two.r (Two.r (Two.r (Two.r (Two.r (Two.r (Hld.out k_)))))))))))))))))))))))))))) | with_reducible apply Two.l (Two.r (Two.r (Two.r (Two.r (Two.r (Two.r (Two.r (Two.r (Two.r (Two.r (Two.r (Two.r (Two.r (Two.r (Two.r (Two.r (Two.r (Two.r (Two.r (Two.r (Two.r (Two.r (Two.r (Two.r (Two.r (Two.r (Two.r (Two.r (Hld.out k_))))))))))))))))))))))))))))) | with_reducible apply Two.l (Two.r (Two.r (Two.r (Two.r (Two.r (Two.r (Two.r (Two.r (Two.r (Two.r (Two.r (Two.r (Two.r (Two.r (Two.r (Two.r (Two.r (Two.r (Two.r (Two.r (Two.r (Two.r (Two.r (Two.r (Two.r (Two.r (Two.r (Two.r (Two.r (Hld.out k_)))))))))))))))))))))))))))))) | with_reducible apply Two.l (Two.r (Two.r (Two.r (Two.r (Two.r (Two.r (Two.r (Two.r (Two.r (Two.r (Two.r (Two.r (Two.r (Two.r (Two.r (Two.r (Two.r (Two.r (Two.r (Two.r (Two.r (Two.r (Two.r (Two.r (Two.r (Two.r (Two.r (Two.r (Two.r (Two.r (Hld.out k_))))))))))))))))))))))))))))))) | with_reducible apply Two.l (Two.r (Two.r (Two.r (Two.r (Two.r (Two.r (Two.r (Two.r (Two.r (Two.r (Two.r (Two.r (Two.r (Two.r (Two.r (Two.r (Two.r (Two.r (Two.r (Two.r (Two.r (Two.r (Two.r (Two.r (Two.r (Two.r (Two.r (Two.r (Two.r (Two.r (Two.r (Hld.out k_)))))))))))))))))))))))))))))))) | with_reducible apply Two.l (Two.r (Two.r (Two.r (Two.r (Two.r (Two.r (Two.r (Two.r (Two.r (Two.r (Two.r (Two.r (Two.r (Two.r (Two.r (Two.r (Two.r (Two.r (Two.r (Two.r (Two.r (Two.r (Two.r (Two.r (Two.r (Two.r (Two.r (Two.r (Two.r (Two.r (Two.r (Two.r (Hld.out k_))))))))))))))))))))))))))))))))) | with_reducible apply Two.l (Two.r (Two.r (Two.r (Two.r (Two.r (Two.r (Two.r (Two.r (Two.r (Two.r (Two.r (Two.r (Two.r (Two.r (Two.r (Two.r (Two.r (Two.r (Two.r (Two.r (Two.r (Two.r (Two.r (Two.r (Two.r (Two.r (Two.r (Two.r (Two.r (Two.r (Two.r (Two.r (Two.r (Hld.out k_)))))))))))))))))))))))))))))))))) | with_reducible apply Two.l (Two.r (Two.r (Two.r (Two.r (Two.r (Two.r (Two.r (Two.r (Two.r (Two.r (Two.r (Two.r (Two.r (Two.r (Two.r (Two.r (Two.r (Two.r (Two.r (Two.r (Two.r (Two.r (Two.r (Two.r (Two.r (Two.r (Two.r (Two.r (Two.r (Two.r (Two.r (Two.r (Two.r (Two.r (Hld.out k_))))))))))))))))))))))))))))))))))) | with_reducible apply Two.l (Two.r (Two.r (Two.r (Two.r (Two.r (Two.r (Two.r (Two.r (Two.r (Two.r (Two.r (Two.r (Two.r (Two.r (Two.r (Two.r (Two.r (Two.r (Two.r (Two.r (Two.r (Two.r (Two.r (Two.r (Two.r (Two.r (Two.r (Two.r (Two.r (Two.r (Two.r (Two.r (Two.r (Two.r (Two.r (Hld.out k_)))))))))))))))))))))))))))))))))))) | with_reducible apply Two.l (Two.r (Two.r (Two.r (Two.r (Two.r (Two.r (Two.r (Two.r (Two.r (Two.r (Two.r (Two.r (Two.r (Two.r (Two.r (Two.r (Two.r (Two.r (Two.r (Two.r (Two.r (Two.r (Two.r (Two.r (Two.r (Two.r (Two.r (Two.r (Two.r (Two.r (Two.r (Two.r (Two.r (Two.r (Two.r (Two.r (Hld.out k_))))))))))))))))))))))))))))))))))))) | with_reducible apply Two.l (Two.r (Two.r (Two.r (Two.r (Two.r (Two.r (Two.r (Two.r (Two.r (Two.r (Two.r (Two.r (Two.r (Two.r (Two.r (Two.r (Two.r (Two.r (Two.r (Two.r (Two.r (Two.r (Two.r (Two.r (Two.r (Two.r (Two.r (Two.r (Two.r (Two.r (Two.r (Two.r (Two.r (Two.r (Two.r (Two.r (Two.r (Hld.out k_)))))))))))))))))))))))))))))))))))))) | with_reducible apply Two.l (Two.r (Two.r (Two.r (Two.r (Two.r (Two.r (Two.r (Two.r (Two.r (Two.r (Two.r (Two.r (Two.r (Two.r (Two.r (Two.r (Two.r (Two.r (Two.r (Two.r (Two.r (Two.r (Two.r (Two.r (Two.r (Two.r (Two.r (Two.r (Two.r (Two.r (Two.r (Two.r (Two.r (Two.r (Two.r (Two.r (Two.r (Two.r (Hld.out k_))))))))))))))))))))))))))))))))))))))) | with_reducible apply Two.l (Two.r (Two.r (Two.r (Two.r (Two.r (Two.r (Two.r (Two.r (Two.r (Two.r (Two.r (Two.r (Two.r (Two.r (Two.r (Two.r (Two.r (Two.r (Two.r (Two.r (Two.r (Two.r (Two.r (Two.r (Two.r (Two.r (Two.r (Two.r (Two.r (Two.r (Two.r (Two.r (Two.r (Two.r (Two.r (Two.r (Two.r (Two.r (Two.r (Hld.out k_))))))))))))))))))))))))))))))))))))))))))); (all_goals try (repeat' first | exact Ls.nil | apply Ls.cons)))) : A := k.1 ⟨r⟩
theorem goU_ (n : Nat) {A R : Prop} (r : R) (k : UpToR n → (Hld R → A) ∧ Ls R := by intro u_; (refine And.intro (fun k_ => ?_) ?_; (focus ((repeat1' first | refine p_quo (h := ?_) | refine p_rem (h := ?_) | refine r_seqA (by assumption) (by rfl) ?_ | refine r_region ?_ | refine r_cond_t rfl ?_ | refine r_cond_f rfl ?_ | refine r_block ?_ | refine r_skip ?_ | refine r_ret ?_ | refine r_exit ?_ | refine l_nil ?_ | refine s_skip (h := ?_) | refine s_nw (h := ?_) | refine s_len (h := ?_) | refine s_lens (h := ?_) | refine s_q (h := ?_) | (refine s_cmp (ht := ?_) (hf := ?_) <;> intro h_ <;> try (exfalso; omega)) | refine s_store (h := ?_) | refine s_box (h := ?_) | refine s_alloc (h := ?_) | refine s_quo (h := ?_) | refine s_rem (h := ?_) | refine s_i (h := ?_) | refine s_i (hq := q_index_ro rfl rfl rfl (by first | exact lit0 | exact lit1 | exact lit2 | exact lit3 | rfl) (by simp only [List.length_cons, List.length_nil]; omega) rfl rfl rfl rfl) (h := ?_) | refine r_drawA ?_ | refine p_nil ?_ | refine p_skip (h := ?_) | refine p_nw (h := ?_) | refine p_len (h := ?_) | refine p_lens (h := ?_) | refine p_q (h := ?_) | refine p_qh (h := ?_) | (refine p_cmp (ht := ?_) (hf := ?_) <;> intro h_ <;> try (exfalso; omega)) | refine p_store (h := ?_) | refine p_box (h := ?_) | refine p_alloc (h := ?_) | refine p_i (h := ?_) | refine p_ih (h := ?_) | refine p_skip0 (h := ?_) | refine s_skip0 (h := ?_) | refine s_nilc (h := ?_) | refine p_nilc (h := ?_) | refine s_bstr (h := ?_) | refine s_lit (h := ?_) | refine p_lit (h := ?_) | refine p_lit0 (h := ?_) | refine s_lit0 (h := ?_) | refine s_ixa (h := ?_) | refine s_func (h := ?_) | refine p_bstr (h := ?_) | (refine s_seql (ht := ?_) (hf := ?_) <;> intro h_ <;> try (exfalso; first | omega | (simp at h_; done) | exact absurd h_ (by assumption) | exact absurd (by assumption) hb_)) | (refine s_sneq (ht := ?_) (hf := ?_) <;> intro h_ <;> try (exfalso; first | omega | (simp at h_; done) | exact absurd h_ (by assumption) | exact absurd (by assumption) hb_)) | (refine s_eqs (ht := ?_) (hf := ?_) <;> intro h_ <;> try (exfalso; first | omega | (simp at h_; done) | exact absurd h_ (by assumption) | exact absurd (by assumption) hb_)) | (refine p_seql (ht := ?_) (hf := ?_) <;> intro h_ <;> try (exfalso; first | omega | (simp at h_; done) | exact absurd h_ (by assumption) | exact absurd (by assumption) hb_)) | (refine p_sneq (ht := ?_) (hf := ?_) <;> intro h_ <;> try (exfalso; first | omega | (simp at h_; done) | exact absurd h_ (by assumption) | exact absurd (by assumption) hb_)) | (refine p_eqs (ht := ?_) (hf := ?_) <;> intro h_ <;> try (exfalso; first | omega | (simp at h_; done) | exact absurd h_ (by assumption) | exact absurd (by assumption) hb_)) | refine thenQ_n ?_ | refine thenQ_r ?_ | refine thenQ_e ?_ | refine blockQ_n ?_ | refine blockQ_r ?_ | refine blockQ_x ?_ | refine blockQ_e rfl ?_ | refine p_shr (h := ?_) | refine p_shl (h := ?_) | (refine s_bytes (h63 := ?_) (h := ?_); (focus (first | omega | (simp only [List.length_append, List.length_map, List.length_cons, List.length_nil, List.length_take, List.length_drop]; omega)))) | (refine p_bytes (h63 := ?_) (h := ?_); (focus (first | omega | (simp only [List.length_append, List.length_map, List.length_cons, List.length_nil, List.length_take, List.length_drop]; omega)))) | refine s_sidx (h := ?_) | refine p_sidx (h := ?_) | refine s_makeMap (h := ?_) | refine s_insert (h := ?_) | refine s_rangeMap (h := ?_) | refine s_entry (h := ?_) | (refine s_beq (ht := ?_) (hf := ?_) <;> intro h_ <;> try (exfalso; simp at h_; done)) | (refine p_beq (ht := ?_) (hf := ?_) <;> intro h_ <;> try (exfalso; simp at h_; done)) | (refine s_bne (ht := ?_) (hf := ?_) <;> intro h_ <;> try (exfalso; simp at h_; done)) | (refine p_bne (ht := ?_) (hf := ?_) <;> intro h_ <;> try (exfalso; simp at h_; done)) | (refine s_sadd rfl ?_ (h := ?_); (focus (first | omega | (simp only [List.length_append, List.length_map, List.length_cons, List.length_nil, List.length_take, List.length_drop]; omega)))) | (refine p_sadd rfl ?_ (h := ?_); (focus (first | omega | (simp only [List.length_append, List.length_map, List.length_cons, List.length_nil, List.length_take, List.length_drop]; omega)))) | fail ""); all_goals ((repeat revert h_); first | with_reducible apply Two.l (Hld.out k_) | with_reducible apply Two.l (Two.r (Hld.out k_)) | with_reducible apply Two.l (Two.r (Two.r (Hld.out k_))) | with_reducible apply Two.l (Two.r (Two.r (Two.r (Hld.out k_)))) | with_reducible apply Two.l (Two.r (Two.r (Two.r (Two.r (Hld.out k_))))) | with_reducible apply Two.l (Two.r (Two.r (Two.r (Two.r (Two.r (Hld.out k_)))))) | with_reducible apply Two.l (Two.r (Two.r (Two.r (Two.r (Two.r (Two.r (Hld.out k_))))))) | with_reducible apply Two.l (Two.r (Two.r (Two.r (Two.r (Two.r (Two.r (Two.r (Hld.out k_)))))))) | with_reducible apply Two.l (Two.r (Two.r (Two.r (Two.r (Two.r (Two.r (Two.r (Two.r (Hld.out k_))))))))) | with_reducible apply Two.l (Two.r (Two.r (Two.r (Two.r (Two.r (Two.r (Two.r (Two.r (Two.r (Hld.out k_)))))))))) | with_reducible apply Two.l (Two.r (Two.r (Two.r (Two.r (Two.r (Two.r (Two.r (Two.r (Two.r (Two.r (Hld.out k_))))))))))) | with_reducible apply Two.l (Two.r (Two.r (Two.r (Two.r (Two.r (Two.r (Two.r (Two.r (Two.r (Two.r (Two.r (Hld.out k_)))))))))))) | with_reducible apply Two.l (Two.r (Two.r (Two.r (Two.r (Two.r (Two.r (Two.r (Two.r (Two.r (Two.r (Two.r (Two.r (Hld.out k_))))))))))))) | with_reducible apply Two.l (Two.r (Two.r (Two.r (Two.r (Two.r (Two.r (Two.r (Two.r (Two.r (Two.r (Two.r (Two.r (Two.r (Hld.out k_)))))))))))))) | with_reducible apply Two.l (Two.r (Two.r (Two.r (Two.r (Two.r (Two.r (Two.r (Two.r (Two.r (Two.r (Two.r (Two.r (Two.r (Two.r (Hld.out k_))))))))))))))) | with_reducible apply Two.l (Two.r (Two.r (Two.r (Two.r (Two.r (Two.r (Two.r (Two.r (Two.r (Two.r (Two.r (Two.r (Two.r (Two.r (Two.r (Hld.out k_)))))))))))))))) | with_reducible apply Two.l (Two.r (Two.r (Two.r (Two.r (Two.r (Two.r (Two.r (Two.r (Two.r (Two.r (Two.r (Two.r (Two.r (Two.r (Two.r (Two.r (Hld.out k_))))))))))))))))) | with_reducible apply Two.l (Two.r (Two.r (Two.r (Two.r (Two.r (Two.r (Two.r (Two.r (Two.r (Two.r (Two.r (Two.r (Two.r (Two.r (Two.r (Two.r (Two.r (Hld.out k_)))))))))))))))))) | with_reducible apply Two.l (Two.r (Two.r (Two.r (Two.r (Two.r (Two.r (Two.r (Two.r (Two.r (Two.r (Two.r (Two.r (Two.r (Two.r (Two.r (Two.r (Two.r (Two.r (Hld.out k_))))))))))))))))))) | with_reducible apply Two.l (Two.r (Two.r (Two.r (Two.r (Two.r (Two.r (Two.r (Two.r (Two.r (Two.r (Two.r (Two.r (Two.r (Two.r (Two.r (Two.r (Two.r (Two.r (Two.r (Hld.out k_)))))))))))))))))))) | with_reducible apply Two.l (Two.r (Two.r (Two.r (Two.r (Two.r (Two.r (Two.r (Two.r (Two.r (Two.r (Two.r (Two.r (Two.r (Two.r (Two.r (Two.r (Two.r (Two.r (Two.r (Two.r (Hld.out k_))))))))))))))))))))) | with_reducible apply Two.l (Two.r (Two.r (Two.r (Two.r (Two.r (Two.r (Two.r (Two.r (Two.r (Two.r (Two.r (Two.r (Two.r (Two.r (Two.r (Two.r (Two.r (Two.r (Two.r (Two.r (Two.r (Hld.out k_)))))))))))))))))))))) | with_reducible apply Two.l (Two.r (Two.r (Two.r (Two.r (Two.r (Two.r (Two.r (Two.r (Two.r (Two.r (Two.r (Two.r (Two.r (Two.r (Two.r (Two.r (Two.r (Two.r (Two.r (Two.r (Two.r (Two.r (Hld.out k_))))))))))))))))))))))) | with_reducible apply Two.l (Two.r (Two.r (Two.r (Two.r (Two.r (Two.r (Two.r (Two.r (Two.r (Two.r (Two.r (Two.r (Two.r (Two.r (Two.r (Two.r (Two.r (Two.r (Two.r (Two.r (Two.r (Two.r (Two.r (Hld.out k_)))))))))))))))))))))))) | with_reducible apply Two.l (Two.r (Two.r (Two.r (Two.r (Two.r (Two.r (Two.r (Two.r (Two.r (Two.r (Two.r (Two.r (Two.r (Two.r (Two.r (Two.r (Two.r (Two.r (Two.r (Two.r (Two.r (Two.r (Two.r (Two.r (Hld.out k_))))))))))))))))))))))))) | with_reducible apply Two.l (Two.r (Two.r (Two.r (Two.r (Two.r (Two.r (Two.r (Two.r (Two.r (Two.r (Two.r (Two.r (Two.r (Two.r (Two.r (Two.r (Two.r (Two.r (Two.r (Two.r (Two.r (Two.r (Two.r (Two.r (Two.r (Hld.out k_)))))))))))))))))))))))))) | with_reducible apply Two.l (Two.r (Two.r (Two.r (Two.r (Two.r (Two.r (Two.r (Two.r (Two.r (Two.r (Two.r (Two.r (Two.r (Two.r (Two.r (Two.r (Two.r (Two.r (Two.r (Two.r (Two.r (Two.r (Two.r (Two.r (Two.r (Two.r (Hld.out k_))))))))))))))))))))))))))) | with_reducible apply Two.l (Two.r (Two.r (Two.r (Two.r (Two.r (Two.r (Two.r (Two.r (Two.r (Two.r (Two.r (Two.r (Two.r (Two.r (Two.r (Two.r (Two.r (Two.r (Two.r (Two.r (Two.r (Two.r (Two.r (Two.r (Two.r (Two.r (Two.r (Hld.out k_)))))))))))))))))))))))))))) | with_reducible apply Two.l (Two.r (Two.r (Two.r (Two.r (Two.r (Two.r (Two.r (Two.r (Two.r (Two.r (Two.r (Two.r (Two.r (Two.r (Two.r (Two.r (Two.r (Two.r (Two.r (Two.r (Two.r (Two.r (Two.r (Two.r (Two.r (Two.r (Two.r (Two.r (Hld.out k_))))))))))))))))))))))))))))) | with_reducible apply Two.l (Two.r (Two.r (Two.r (Two.r (Two.r (Two.r (Two.r (Two.r (Two.r (Two.r (Two.r (Two.r (Two.r (Two.r (Two.r (Two.r (Two.r (Two.r (Two.r (Two.r (Two.r (Two.r (Two.r (Two.r (Two.r (Two.r (Two.r (Two.r (Two.r (Hld.out k_)))))))))))))))))))))))))))))) | with_reducible apply Two.l (Two.r (Two.r (Two.r (Two.r (Two.r (Two.r (Two.r (Two.r (Two.r (Two.r (Two.r (Two.r (Two.r (Two.r (Two.r (Two.r (Two.r (Two.r (Two.r (Two.r (Two.r (Two.r (Two.r (Two.r (Two.r (Two.r (Two.r (Two.r (Two.r (Two.r (Hld.out k_))))))))))))))))))))))))))))))) | with_reducible apply Two.l (Two.r (Two.r (Two.r (Two.r (Two.r (Two.r (Two.r (Two.r (Two.r (Two.r (Two.r (Two.r (Two.r (Two.r (Two.r (Two.r (Two.r (Two.r (Two.r (Two.r (Two.r (Two.r (Two.r (Two.r (Two.r (Two.r (Two.r (Two.r (Two.r (Two.r (Two.r (Hld.out k_)))))))))))))))))))))))))))))))) | with_reducible apply Two.l (Two.r (Two.r (Two.r (Two.r (Two.r (Two.r (Two.r (Two.r (Two.r (Two.r (Two.r (Two.r (Two.r (Two.r (Two.r (Two.r (Two.r (Two.r (Two.r (Two.r (Two.r (Two.r (Two.r (Two.r (Two.r (Two.r (Two.r (Two.r (Two.r (Two.r (Two.r (Two.r (Hld.out k_))))))))))))))))))))))))))))))))) | with_reducible apply Two.l (Two.r (Two.r (Two.r (Two.r (Two.r (Two.r (Two.r (Two.r (Two.r (Two.r (Two.r (Two.r (Two.r (Two.r (Two.r (Two.r (Two.r (Two.r (Two.r (Two.r (Two.r (Two.r (Two.r (Two.r (Two.r (Two.r (Two.r (Two.r (Two.r (Two.r (Two.r (Two.r (Two.r (Hld.out k_)))))))))))))))))))))))))))))))))) | with_reducible apply Two.l (Two.r (Two.r (Two.r (Two.r (Two.r (Two.r (Two.r (Two.r (Two.r (Two.r (Two.r (Two.r (Two.r (Two.r (Two.r (Two.r (Two.r (Two.r (Two.r (Two.r (Two.r (Two.r (Two.r (Two.r (Two.r (Two.r (Two.r (Two.r (Two.r (Two.r (Two.r (Two.r (Two.r (Two.r (Hld.out k_))))))))))))))))))))))))))))))))))) | with_reducible apply Two.l (Two.r (Two.r (Two.r (Two.r (Two.r (Two.r (Two.r (Two.r (Two.r (Two.r (Two.r (Two.r (Two.r (Two.r (Two.r (Two.r (Two.r (Two.r (Two.r (Two.r (Two.r (Two.r (Two.r (Two.r (Two.r (Two.r (Two.r (Two.r (Two.r (Two.r (Two.r (Two.r (Two.r (Two.r (Two.r (Hld.out k_)))))))))))))))))))))))))))))))))))) | with_reducible apply Two.l (Two.r (Two.r (Two.r (Two.r (Two.r (Two.r (Two.r (Two.r (Two.r (Two.r (Two.r (Two.r (Two.r (Two.r (Two.r (Two.r (Two.r (Two.r (Two.r (Two.r (Two.r (Two.r (Two.r (Two.r (Two.r (Two.r (Two.r (Two.r (Two.r (Two.r (Two.r (Two.r (Two.r (Two.r (Two.r (Two.r (Hld.out k_))))))))))))))))))))))))))))))))))))) | with_reducible apply Two.l (Two.r (Two.r (Two.r (Two.r (Two.r (Two.r (Two.r (Two.r (Two.r (Two.r (Two.r (Two.r (Two.r (Two.r (Two.r (Two.r (Two.r (Two.r (Two.r (Two.r (Two.r (Two.r (Two.r (Two.r (Two.r (Two.r (Two.r (Two.r (Two.r (Two.r (Two.r (Two.r (Two.r (Two.r (Two.r (Two.r (Two.r (Hld.out k_)))))))))))))))))))))))))))))))))))))) | with_reducible apply Two.l (Two.r (Two.r (Two.r (Two.r (Two.r (Two.r (Two.r (Two.r (Two.r (Two.r (Two.r (Two.r (Two.r (Two.r (Two.r (Two.r (Two.r (Two.r (Two.r (Two.r (Two.r (Two.r (Two.r (Two.r (Two.r (Two.r (Two.r (Two.r (Two.r (Two.r (Two.r (Two.r (Two.r (Two.r (Two.r (Two.r (Two.r (Two.r (Hld.out k_))))))))))))))))))))))))))))))))))))))) | with_reducible apply Two.l (Two.r (Two.r (Two.r (Two.r (Two.r (Two.r (Two.r (Two.r (Two.r (Two.r (Two.r (Two.r (Two.r (Two.r (Two.r (Two.r (Two.r (Two.r (Two.r (Two.r (Two.r (Two.r (Two.r (Two.r (Two.r (Two.r (Two.r (Two.r (Two.r (Two.r (Two.r (Two.r (Two.r (Two.r (Two.r (Two.r (Two.r (Two.r (Two.r (Hld.out k_))))))))))))))))))))))))))))))))))))))))))); (all_goals try (repeat' first | exact Ls.nil | apply Ls.cons)))) : A := (k ⟨trivial⟩).1 ⟨r⟩
theorem lessA_ {p : Prop} (h : p := by (first | (first | (refine less_to (hc := ?_) (hh := ?_) (hn := ?_) (hn0 := ?_) (he := ?_) (hb := ?_) (hnt := ?_); (focus ((repeat' (first | exact True.intro | exact rfl | exact cov_int rfl (by first | rfl | omega | (dsimp only; omega)) | refine And.intro ?_ ?_)); done)); (focus ((repeat' (first | exact True.intro | exact rfl | refine And.intro ?_ ?_)); done)); exact rfl; exact rfl; exact rfl; exact rfl; exact rfl) | (apply less_by; (focus ((repeat' (first | exact NormP.nil | apply NormP.cons)); done)); exact rfl; (focus ((repeat' (first | exact True.intro | exact ex_sv rfl rfl | exact ex_int rfl (by first | rfl | omega | (dsimp only; omega)) | exact ex_ro rfl (by first | assumption | (simp; done)) | refine And.intro ?_ ?_)); done)); (focus ((repeat' (first | exact True.intro | exact ex_blk rfl rfl rfl | exact ex_row rfl (by first | assumption | (rw [take_snoc (by assumption), List.map_append]; rfl) | (simp; done)) rfl | refine And.intro ?_ ?_)); done)); exact rfl)) | fail "")) : p := h
theorem endwA_ {p : Prop} (h : p := by (first | (refine endw_ (hr := ?_); (try dsimp only); (repeat' (first | with_reducible exact Wk.refl _ | exact Wk.nil | exact WkL.nil | apply Wk.tup | apply Wk.agg | apply WkL.cons | exact Wk.refl _ | exact wk_t (by first | omega | assumption) | exact wk_f (by first | omega | assumption) | exact wk_int (by omega))); done) | fail "")) : p := h
theorem endmA_ {p : Prop} (h : p := by (first | (refine endm_ (hr := ?_) (hh := ?_); (focus ((try dsimp only); (repeat' (first | with_reducible exact Wk.refl _ | exact Wk.nil | exact WkL.nil | apply Wk.tup | apply Wk.agg | apply WkL.cons | exact Wk.refl _ | exact wk_t (by first | omega | assumption) | exact wk_f (by first | omega | assumption) | exact wk_int (by omega))); done)); (focus ((repeat' (first | exact True.intro | exact ex_blk rfl rfl rfl | exact ex_row rfl (by first | assumption | (simp; done)) rfl | refine And.intro ?_ ?_)); done))) | fail "")) : p := h
end Go.Proofs.Ytendheafcbickaa

/- A VALUE CALCULUS OVER THE MODEL: is a pointer nil? Plain lemmas, over any program. -/
set_option linter.unusedSimpArgs false
set_option linter.unusedVariables false
namespace Go.Proofs.Ytendheafcbickaa
open Go.RowKit
section
variable {P : Program} {G : List Nat} {o : Oper} {st : St}

/-- cells that may be read as another: a nil slice as data -/
def WkC (v v' : V) : Prop := v = v' ∨ (v = .lit (.slice none 0 0) ∧ v' = .ro [])
theorem WkC.rel {S : Nat → Prop} {w : World} {v v' : V} {u : Value} (h : WkC v v') (hr : PRel S w v u) : PRel S w v' u := by
  rcases h with rfl | ⟨rfl, rfl⟩
  · exact hr
  · cases hr
    exact .ro [] none 0 1 0 0 (fun _ _ => undef) (by simp) (by unfold maxLen; omega) (by omega) (fun h => by simp at h) (fun i hi => by simp at hi) (fun i j hi => by simp at hi) (fun i j hi => by simp at hi)
end
end Go.Proofs.Ytendheafcbickaa

/- A VALUE CALCULUS OVER THE MODEL: one of the call's own under a new number. Plain lemmas, over any program. -/
set_option linter.unusedSimpArgs false
set_option linter.unusedVariables false
namespace Go.Proofs.Ytendheafcbickaa
open Go.RowKit
section
variable {P : Program} {n0 : Nat}
def mvI (a b x : Nat) : Nat := bif Nat.beq x a then b else x
theorem mvI_a (a b : Nat) : mvI a b a = b := by unfold mvI; rw [Nat.beq_refl]; rfl
theorem mvI_o {a b x : Nat} (h : x ≠ a) : mvI a b x = x := by
  unfold mvI
  cases e : Nat.beq x a with
  | true => exact absurd (Nat.eq_of_beq_eq_true e) h
  | false => rfl
def coverM (m : Nat → Nat) (env : List (Nat × V)) : List (Nat × V) → Prop
  | [] => True
  | (t, v) :: r => (∃ u, getE env t = some u ∧ fv m u = v) ∧ coverM m env r
theorem coverM_spec {m : Nat → Nat} {env : List (Nat × V)} : ∀ {e : List (Nat × V)}, coverM m env e → ∀ t v, getE e t = some v → ∃ u, getE env t = some u ∧ fv m u = v
  | [], _, t, v, h => by simp [getE] at h
  | (s, x) :: r, hc, t, v, h => by
    simp only [getE] at h
    cases hb : Nat.beq s t with
    | true => rw [hb] at h; simp only [cond_true, Option.some.injEq] at h; rw [← h, ← Nat.eq_of_beq_eq_true hb]; exact hc.1
    | false => rw [hb] at h; exact coverM_spec hc.2 t v h
def coverMH (m : Nat → Nat) (heap : List (Nat × Option Blk)) : List (Nat × Option Blk) → Prop
  | [] => True
  | (_, none) :: r => coverMH m heap r
  | (id, some B') :: r => (∃ i B, m i = id ∧ getH heap i = some B ∧ fB m B = B') ∧ coverMH m heap r
theorem coverMH_spec {m : Nat → Nat} {heap : List (Nat × Option Blk)} : ∀ {e : List (Nat × Option Blk)}, coverMH m heap e → ∀ id B', getH e id = some B' → ∃ i B, m i = id ∧ getH heap i = some B ∧ fB m B = B'
  | [], _, t, v, h => by simp [getH] at h
  | (s, none) :: r, hc, t, v, h => by
    rw [getH_new] at h
    split at h
    · cases h
    · exact coverMH_spec (e := r) hc t v h
  | (s, some u) :: r, hc, t, v, h => by
    rw [getH_new] at h
    split at h
    · rename_i e; subst e; injection h with h; subst h; exact hc.1
    · exact coverMH_spec (e := r) hc.2 t v h
theorem less_mv {st st' : St} (a : Nat) (hn0 : Nat.ble n0 st.next = true) (hE' : coverM (mvI a st.next) st.env st'.env) (hH' : coverMH (mvI a st.next) st.heap st'.heap) (hn : st'.next = st.next + 1) (hnt : st'.nt = st.nt) : Less P n0 st st' := fun F base w0 ρ act w hH hE => by
  have hE2 := coverM_spec hE'
  have hH2 := coverMH_spec hH'
  clear hE' hH'
  generalize hb : st.next = b at *
  let ρ' : Nat → Option Value := fun id => if id = b then ρ a else ρ id
  have hup : ∀ id u, ρ id = some u → ρ' (mvI a b id) = some u := fun id u hu => by
    by_cases e : id = a
    · subst e; rw [mvI_a]; show (if b = b then ρ id else ρ b) = some u; rw [if_pos rfl]; exact hu
    · rw [mvI_o e]
      show (if id = b then ρ a else ρ id) = some u
      have := (hH.sup id u hu).1
      rw [if_neg (by omega)]; exact hu
  -- what the new memory's numbers stand for
  have hdn : ∀ i B, getH st.heap i = some B → ρ' (mvI a b i) = ρ i := fun i B hB => by
    have hi : ∃ u, ρ i = some u := by
      have := hH.blk i B hB
      cases B with
      | box t cs => obtain ⟨_, _, h, _⟩ := this; exact ⟨_, h⟩
      | row e s l => obtain ⟨_, _, _, h, _⟩ := this; exact ⟨_, h⟩
      | fro l => obtain ⟨_, h, _⟩ := this; exact ⟨_, h⟩
      | map q es => obtain ⟨_, _, _, h, _⟩ := this; exact ⟨_, h⟩
      | obj o => obtain ⟨_, h, _⟩ := this; exact ⟨_, h⟩
      | brow be bl => obtain ⟨_, _, _, _, h, _⟩ := this; exact ⟨_, h⟩
      | rox e s l => obtain ⟨_, _, _, h, _⟩ := this; exact ⟨_, h⟩
      | fmap q es => obtain ⟨_, _, _, h, _⟩ := this; exact ⟨_, h⟩
      | iter left cur => obtain ⟨_, _, _, _, _, _, _, h, _⟩ := this; exact ⟨_, h⟩
    obtain ⟨u, hu⟩ := hi
    rw [hup i u hu, hu]
  have hst : ∀ x, Stab F ρ st.heap x → Stab F ρ' st'.heap x := fun x h => ⟨h.1, fun id B' u hB ho hu => by
    obtain ⟨i, B, rfl, h2, rfl⟩ := hH2 id B' hB
    rw [hdn i B h2] at hu
    exact h.2 i B u h2 (by rw [fB_owns] at ho; exact ho) hu⟩
  have hS : ∀ x, Stab F ρ st.heap x → x < w.heap.size → Stab F ρ' st'.heap x := fun x h _ => hst x h
  refine ⟨ρ', ⟨⟨hH.below, hH.hbase, fun id u hu => ?_, fun id id' B B' u u' x hB hB' ho ho' hu hu' hx hx' => ?_, fun id B' hB' => ?_⟩, hH.hF⟩, ⟨by rw [hnt]; exact hE.size, hE.defers, fun t v hv => ?_⟩, fun id hid => ?_⟩
  · rw [hn]
    have hu : (if id = b then ρ a else ρ id) = some u := hu
    split at hu
    · have := hH.sup a u hu; exact ⟨by omega, this.2⟩
    · have := hH.sup id u hu; exact ⟨by omega, this.2⟩
  · obtain ⟨i, C, rfl, h2, rfl⟩ := hH2 id B hB
    obtain ⟨j, C', rfl, k2, rfl⟩ := hH2 id' B' hB'
    rw [hdn i C h2] at hu
    rw [hdn j C' k2] at hu'
    rw [fB_owns] at ho ho'
    rw [hH.inj i j C C' u u' x h2 k2 ho ho' hu hu' hx hx']
  · obtain ⟨i, B, rfl, h2, rfl⟩ := hH2 id B' hB'
    have hbk := hH.blk i B h2
    have e := hdn i B h2
    cases B with
    | box t cs =>
      obtain ⟨b, us, q1, q2, q3, q4, q5⟩ := hbk
      refine ⟨b, us, by rw [e]; exact q1, q2, q3, by rw [fvL_len]; exact q4, fun j hj => ?_⟩
      rw [fvL_len] at hj
      rw [fvL_at hj]
      exact ⟨fv_up hS hup (q5 j hj).1, (q5 j hj).2⟩
    | row ty s l =>
      obtain ⟨h0', v, xs, q1, q2, q3, q4⟩ := hbk
      exact ⟨h0', v, xs, by rw [e]; exact q1, q2, q3, fun i j hi hj => by
        obtain ⟨u, hu, hp, ho⟩ := q4 i j hi hj
        exact ⟨u, hu, hp.mono (Same.refl _ _) hS, ho⟩⟩
    | fro l =>
      obtain ⟨v, q1, q2, q3⟩ := hbk
      exact ⟨v, by rw [e]; exact q1, q2.mono (Same.refl _ _) hS, q3⟩
    | map q es =>
      obtain ⟨b, mes, clock, q1, q2⟩ := hbk
      exact ⟨b, mes, clock, by rw [e]; exact q1, q2⟩
    | obj o =>
      obtain ⟨b, q1, q2⟩ := hbk
      exact ⟨b, by rw [e]; exact q1, q2⟩
    | brow be bl =>
      obtain ⟨b, cap, cur, fz, q1, q2⟩ := hbk
      exact ⟨b, cap, cur, fz, by rw [e]; exact q1, q2⟩
    | rox ty s l =>
      obtain ⟨h0', v, xs, q1, q2, q3, q4⟩ := hbk
      refine ⟨h0', v, xs, by rw [e]; exact q1, by rw [List.length_map]; exact q2, fun i hi => ?_, fun i j hi hj => ?_⟩
      · rw [List.length_map] at hi; rw [eAt_fmap hi, fvL_len]; exact q3 i hi
      · rw [List.length_map] at hi
        obtain ⟨u, hu, hp, ho⟩ := q4 i j hi hj
        rw [eAt_fmap hi, fvL_at (by rw [q3 i hi]; exact hj)]
        exact ⟨u, hu, fv_up hS hup hp, ho⟩
    | fmap q es =>
      obtain ⟨b, mes, clock, q1, q2, q3⟩ := hbk
      exact ⟨b, mes, clock, by rw [e]; exact q1, hS b q2 (Array.getElem?_eq_some_iff.1 q3.1).1, q3⟩
    | iter left cur =>
      obtain ⟨r, b, mes, clock, since, seen, c0, q1, q2, q3, q4, q5⟩ := hbk
      exact ⟨r, b, mes, clock, since, seen, c0, by rw [e]; exact q1, q2, q3, hS b q4 (Array.getElem?_eq_some_iff.1 q5.1).1, q5⟩
  · obtain ⟨u, h1, rfl⟩ := hE2 t v hv
    exact fv_up hS hup (hE.slot t u h1)
  · show (if id = b then ρ a else ρ id) = ρ id
    have := Nat.le_of_ble_eq_true hn0
    rw [if_neg (by omega)]
theorem mv_ {st st' : St} (a : Nat) (hn0 : Nat.ble n0 st.next = true := by rfl)
    (hE' : coverM (mvI a st.next) st.env st'.env := by ((repeat' (first | exact True.intro | exact ⟨_, rfl, rfl⟩ | refine And.intro ?_ ?_)); done))
    (hH' : coverMH (mvI a st.next) st.heap st'.heap := by ((repeat' (first | exact True.intro | exact ⟨0, _, rfl, rfl, rfl⟩ | exact ⟨1, _, rfl, rfl, rfl⟩ | exact ⟨2, _, rfl, rfl, rfl⟩ | exact ⟨3, _, rfl, rfl, rfl⟩ | exact ⟨4, _, rfl, rfl, rfl⟩ | exact ⟨5, _, rfl, rfl, rfl⟩ | exact ⟨6, _, rfl, rfl, rfl⟩ | exact ⟨7, _, rfl, rfl, rfl⟩ | exact ⟨8, _, rfl, rfl, rfl⟩ | refine And.intro ?_ ?_)); done))
    (hn : st'.next = st.next + 1 := by rfl) (hnt : st'.nt = st.nt := by rfl) : Less P n0 st st' := less_mv a hn0 hE' hH' hn hnt
end
section
variable {P : Program} {o : Oper} {n0 : Nat} {ops : List Oper} {rest : List Oper} {env : List (Nat × V)} {heap : List (Nat × Option Blk)} {next nt : Nat} {Q : St → Prop}
end
/-! ### Data whose nil cells are read as data -/
end Go.Proofs.Ytendheafcbickaa

/- A VALUE CALCULUS OVER THE MODEL: regions that draw their order, with what they may write told; slots read as data. Plain lemmas, over any program. -/
set_option linter.unusedSimpArgs false
set_option linter.unusedVariables false
namespace Go.Proofs.Ytendheafcbickaa
open Go.RowKit
section
variable {P : Program} {n0 : Nat}
/-- with what it may write of what was there told: pairs (place of the operation, number) -/
theorem r_drawW {id : Nat} {st : St} {Q : Exit → St → Prop} {l : List Oper} (ws : List (Nat × Nat)) (h : PL P st.nt st.next l (fun j id => (Nat.ble st.next id && isWat l j) || memW ws j id) st.next l st.env st.heap (Q .normal))
    (hm : P.follows .mixedOrders = true := by kernel_rfl) (hok : okText l = true := by kernel_rfl) (hn0 : Nat.ble n0 st.next = true := by kernel_rfl) :
    Run P n0 (.region id l.toArray true) st Q := r_draw _ h hm hok hn0
end
end Go.Proofs.Ytendheafcbickaa
