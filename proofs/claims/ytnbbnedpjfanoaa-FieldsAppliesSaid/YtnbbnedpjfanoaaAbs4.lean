/-
  A VALUE CALCULUS OVER THE MODEL, part 4: new memory, stores, appends, conversions. Plain lemmas, over any program.
-/
import Derived.Test.YtnbbnedpjfanoaaAbs3
set_option linter.unusedVariables false
set_option linter.unusedSimpArgs false
set_option linter.unusedVariables false
namespace Go.Proofs.Ytnbbnedpjfanoaa
open Go.RowKit
section
variable {P : Program} {o : Oper} {st : St} {n0 : Nat}

def upd (ρ : Nat → Option Value) (n : Nat) (u : Value) : Nat → Option Value := fun id => if id = n then some u else ρ id
theorem upd_same (ρ : Nat → Option Value) (n : Nat) (u : Value) : upd ρ n u n = some u := if_pos rfl
theorem upd_ne (ρ : Nat → Option Value) {n id : Nat} (u : Value) (h : id ≠ n) : upd ρ n u id = ρ id := if_neg h

/-- the state with a slot put -/
def St.put (st : St) (d : Option Tmp) (v : V) : St :=
  match d with
  | some d => { st with env := (d, v) :: st.env }
  | none => st
/-- the state with something new, of number k -/
def St.newAt (st : St) (k : Nat) (d : Tmp) (v : V) (B : Blk) : St := { env := (d, v) :: st.env, heap := (k, some B) :: st.heap, next := st.next, nt := st.nt }
def St.new (st : St) (d : Tmp) (v : V) (B : Blk) : St := { env := (d, v) :: st.env, heap := (st.next, some B) :: st.heap, next := st.next + 1, nt := st.nt }
/-- what a step that takes number k leaves -/
def NextAt (k : Nat) (F : Nat → Prop) (base : Nat → Prop) (w0 : World) (ρ : Nat → Option Value) (w : World) (st' : St) (a' : Act) (w' : World) : Prop :=
  ∃ ρ', HRel F base ρ' st'.heap st'.next w0 w' ∧ ERel ρ' (Stab F ρ' st'.heap) w' st'.nt st'.env a' ∧ (∀ id u, ρ id = some u → ρ' id = some u) ∧ (∀ id, id ≠ k → ρ' id = ρ id)
def GAt (P : Program) (k : Nat) (o : Oper) (st st' : St) : Prop :=
  ∀ F base w0 ρ a w, HRel F base ρ st.heap st.next w0 w → ERel ρ (Stab F ρ st.heap) w st.nt st.env a → ρ k = none → k < st.next → o.wp P a w (NextAt k F base w0 ρ w st') (fun _ _ _ => False)
theorem upon_mono0 {a : Act} {w : World} {K K' : Act → World → Prop} (h : ∀ a w, K a w → K' a w) (hh : o.wp P a w K (fun _ _ _ => False)) : o.wp P a w K' (fun _ _ _ => False) := by
  unfold Oper.wp at *
  generalize (execOp a.eval o).run P w = r at *
  cases r with
  | ok n w' =>
    cases n <;> simp only [Oper.upon] at hh ⊢ <;>
      first
        | exact h _ _ hh
        | exact Calls.mono hh (fun e w'' he => by cases e <;> first | exact h _ _ he | exact he)
        | exact Rows.mono hh (fun _ _ he => h _ _ he)
  | halt x w' => cases x <;> simp only [Oper.upon] at hh ⊢ <;> exact hh
theorem gstep_of_at {st' : St} (hn0 : n0 ≤ st.next) (h : GAt P st.next o { st with next := st.next + 1 } st') : GStep P n0 o st st' := fun F base w0 ρ a w hH hE => by
  have hnn : ρ st.next = none := by
    cases h : ρ st.next with
    | none => rfl
    | some x => exact absurd (hH.sup _ _ h).1 (Nat.lt_irrefl _)
  refine upon_mono0 ?_ (h F base w0 ρ a w ⟨⟨hH.below, hH.hbase, fun id u h => ⟨Nat.lt_succ_of_lt (hH.sup id u h).1, (hH.sup id u h).2⟩, hH.inj, hH.blk⟩, hH.hF⟩ hE hnn (Nat.lt_succ_self _))
  rintro a' w' ⟨ρ', h1, h2, h3, h4⟩
  exact ⟨ρ', h1, h2, h3, fun id hid => h4 id (by omega)⟩

theorem getH_new {heap : List (Nat × Option Blk)} {n id : Nat} {B : Option Blk} : getH ((n, B) :: heap) id = if n = id then B else getH heap id := by
  simp only [getH]
  by_cases h : n = id
  · subst h; simp
  · rw [if_neg h]
    have hb : Nat.beq n id = false := by
      cases hb : Nat.beq n id
      · rfl
      · exact absurd (Nat.eq_of_beq_eq_true hb) h
    rw [hb]; rfl

theorem HRel.none_next {F : Nat → Prop} {base : Nat → Prop} {ρ : Nat → Option Value} {heap : List (Nat × Option Blk)} {next : Nat} {w0 w : World} (h : HRel F base ρ heap next w0 w) : getH heap next = none := by
  cases hB : getH heap next with
  | none => rfl
  | some B =>
    exfalso
    have := h.blk _ _ hB
    have hs : ∃ u, ρ next = some u := by
      cases B with
      | box t cs => obtain ⟨b, us, h1, _⟩ := this; exact ⟨_, h1⟩
      | row e s l => obtain ⟨_, v, xs, h1, _⟩ := this; exact ⟨_, h1⟩
      | fro l => obtain ⟨v, h1, _⟩ := this; exact ⟨_, h1⟩
      | map q es => obtain ⟨b, _, _, h1, _⟩ := this; exact ⟨_, h1⟩
      | obj o => obtain ⟨b, h1, _⟩ := this; exact ⟨_, h1⟩
    obtain ⟨u, hu⟩ := hs
    exact Nat.lt_irrefl _ (h.sup _ _ hu).1

/-- number k, behind which stands a new block (or what is nowhere yet) -/
theorem next_new {k : Nat} {F : Nat → Prop} {base : Nat → Prop} {ρ : Nat → Option Value} {w0 w w' : World} {a : Act} {B : Blk} {u : Value} {d : Nat} {v : V}
    (hH : HRel F base ρ st.heap st.next w0 w) (hE : ERel ρ (Stab F ρ st.heap) w st.nt st.env a) (hnn : ρ k = none) (hk : k < st.next) (hw : Below w.heap.size w w')
    (hu : B.owns = true → ∀ b, blockOf u = some b → w.heap.size ≤ b) (hd : d < st.nt) (h1 : u.oneCell' = true)
    (hB : ∀ S, (∀ b, Stab F ρ st.heap b → b < w.heap.size → S b) → (B.owns = false → ∀ b, w.heap.size ≤ b → S b) → Same (Stab F ρ st.heap) w w' → BRel base (upd ρ k u) S w' k B)
    (hv : ∀ S, VRel (upd ρ k u) S w' v u) : NextAt k F base w0 ρ w (st.newAt k d v B) (a.put (some d) u) w' := by
  have hext : ∀ id x, ρ id = some x → upd ρ k u id = some x := fun id x h => by rw [upd_ne _ _ (fun e => by rw [e, hnn] at h; cases h)]; exact h
  have hS2 : B.owns = false → ∀ b, w.heap.size ≤ b → Stab F (upd ρ k u) ((k, some B) :: st.heap) b := by
    intro ho b hb
    refine ⟨hH.hF b (hH.hbase b hb), fun id B' u' hB' ho' hu' hbb => ?_⟩
    rw [getH_new] at hB'
    by_cases e : k = id
    · rw [if_pos e] at hB'; injection hB' with hB'; subst hB'; rw [ho] at ho'; cases ho'
    · rw [if_neg e] at hB'
      rw [upd_ne _ _ (Ne.symm e)] at hu'
      have := (hH.owned hB' ho' hu' hbb).2
      omega
  obtain ⟨h1', h2, h3⟩ := hH.step (ρ' := upd ρ k u) (heap' := (k, some B) :: st.heap) (next' := st.next) (w' := w') k none
    ⟨hw.os, hw.tape, hw.output, hw.size, fun k hk _ => hw.block k hk⟩ (fun k h => by cases h) hext
    (fun id x h => by
      by_cases e : id = k
      · rw [e, upd_same] at h; injection h with h; subst h; exact ⟨by omega, h1⟩
      · rw [upd_ne _ _ e] at h; have := hH.sup _ _ h; exact ⟨by omega, this.2⟩)
    (fun id B' hne hB' => by
      rw [getH_new, if_neg (Ne.symm hne)] at hB'
      refine ⟨hB', ?_⟩
      have := hH.blk _ _ hB'
      cases B' with
      | box t cs => obtain ⟨b, us, h1, _⟩ := this; exact ⟨_, h1, fun _ _ _ h => by cases h⟩
      | row e s l => obtain ⟨_, v, xs, h1, _⟩ := this; exact ⟨_, h1, fun _ _ _ h => by cases h⟩
      | fro l => obtain ⟨v, h1, _⟩ := this; exact ⟨_, h1, fun _ _ _ h => by cases h⟩
      | map q es => obtain ⟨b, _, _, h1, _⟩ := this; exact ⟨_, h1, fun _ _ _ h => by cases h⟩
      | obj o => obtain ⟨b, h1, _⟩ := this; exact ⟨_, h1, fun _ _ _ h => by cases h⟩)
    (fun B' u' b hB' ho hu' hb => by
      rw [getH_new, if_pos rfl] at hB'; injection hB' with hB'; subst hB'
      rw [upd_same] at hu'; injection hu' with hu'; subst hu'
      exact .inl (hu ho b hb))
    (fun B' hB' hS hsame => by
      rw [getH_new, if_pos rfl] at hB'; injection hB' with hB'; subst hB'
      exact hB _ hS hS2 hsame)
  exact ⟨upd ρ k u, h1', (hE.mono h2 h3 hext).put hd (hv _), hext, fun id hid => upd_ne _ _ hid⟩

theorem below_alloc (w : World) (ob : Obj) : Below w.heap.size w (w.alloc ob) := (Below.refl _ w).alloc (Nat.le_refl _) ob

/-- all cells are single values -/
def oneV : V → Bool
  | .lit _ => true
  | .ro _ => true
  | .own _ => true
  | .ptr .. => true
  | .rp _ => true
  | .clo .. => true
  | _ => false
theorem one_of_oneV {ρ : Nat → Option Value} {S : Nat → Prop} {w : World} {v : V} {u : Value} (h : VRel ρ S w v u) (ho : oneV v = true) (hρ : ∀ id x, ρ id = some x → x.oneCell' = true) : u.oneCell' = true := by
  cases h with
  | pure h => cases h with
    | lit _ h => exact h
    | ro => rfl
  | own h => exact hρ _ _ h
  | ptr => rfl
  | rp => rfl
  | agg => cases ho
  | tup => cases ho
  | clo => rfl
  | any => cases ho
  | und => cases ho

/-- the cells of a value -/
def flat : V → Option (List V)
  | .agg cs => bif cs.all oneV then some cs else none
  | .tup _ => none
  | .any => none
  | .und => none
  | v => some [v]
theorem flat_spec {ρ : Nat → Option Value} {S : Nat → Prop} {w : World} {v : V} {u : Value} {cs : List V} (h : VRel ρ S w v u) (hf : flat v = some cs) (hρ : ∀ id x, ρ id = some x → x.oneCell' = true) :
    u.cells.size = cs.length ∧ ∀ j, j < cs.length → VRel ρ S w (cAt cs j) (u.cells.getD j undef) ∧ (u.cells.getD j undef).oneCell' = true := by
  have single : ∀ v' : V, oneV v' = true → VRel ρ S w v' u → u.cells.size = [v'].length ∧ ∀ j, j < [v'].length → VRel ρ S w (cAt [v'] j) (u.cells.getD j undef) ∧ (u.cells.getD j undef).oneCell' = true := by
    intro v' ho hv'
    have h1 := one_of_oneV hv' ho hρ
    have hc : u.cells = #[u] := by cases u <;> first | rfl | (simp [Value.oneCell'] at h1)
    rw [hc]
    refine ⟨rfl, fun j hj => ?_⟩
    have : j = 0 := by simpa using hj
    subst this
    exact ⟨hv', h1⟩
  cases v with
  | agg cs' =>
    simp only [flat] at hf
    cases hb : cs'.all oneV with
    | false => rw [hb] at hf; cases hf
    | true =>
      rw [hb] at hf
      simp only [cond_true, Option.some.injEq] at hf
      subst hf
      cases h with
      | pure h => cases h
      | @agg _ us hn h =>
        refine ⟨hn, fun j hj => ⟨h j hj, one_of_oneV (h j hj) ?_ hρ⟩⟩
        rw [List.all_eq_true] at hb
        refine hb _ ?_
        unfold cAt
        rw [List.getD_eq_getElem?_getD, List.getElem?_eq_getElem hj]
        exact List.getElem_mem hj
  | tup => cases hf
  | any => cases hf
  | und => cases hf
  | lit => simp only [flat, Option.some.injEq] at hf; subst hf; exact single _ rfl h
  | ro => simp only [flat, Option.some.injEq] at hf; subst hf; exact single _ rfl h
  | own => simp only [flat, Option.some.injEq] at hf; subst hf; exact single _ rfl h
  | ptr => simp only [flat, Option.some.injEq] at hf; subst hf; exact single _ rfl h
  | rp => simp only [flat, Option.some.injEq] at hf; subst hf; exact single _ rfl h
  | clo => simp only [flat, Option.some.injEq] at hf; subst hf; exact single _ rfl h

theorem wp_of_value {a : Act} {w w' : World} {u : Value} {K : Act → World → Prop} {Q : Exit → Act → World → Prop} (h : (execOp a.eval o).run P w = .ok (.value u) w') (hk : K (a.put o.dst u) w') : o.wp P a w K Q := by
  unfold Oper.wp; rw [h]; exact hk
theorem wp_of_skip {a : Act} {w w' : World} {K : Act → World → Prop} {Q : Exit → Act → World → Prop} (h : (execOp a.eval o).run P w = .ok .skip w') (hk : K (a.put o.dst undef) w') : o.wp P a w K Q := by
  unfold Oper.wp; rw [h]; exact hk

theorem alloc_cells (w : World) (us : Array Value) (T : TypeId) : (w.alloc (.cells us T)).heap[w.heap.size]? = some (.cells us T (0, 0)) := heap_alloc_new w _

/-- a new variable -/
theorem next_box {k : Nat} {F : Nat → Prop} {base : Nat → Prop} {ρ : Nat → Option Value} {w0 w : World} {a : Act} {d : Nat} {T : TypeId} {cs : List V} {us : Array Value}
    (hH : HRel F base ρ st.heap st.next w0 w) (hE : ERel ρ (Stab F ρ st.heap) w st.nt st.env a) (hnn : ρ k = none) (hk : k < st.next) (hd : d < st.nt) (hn : us.size = cs.length)
    (hc : ∀ j, j < cs.length → VRel ρ (Stab F ρ st.heap) w (cAt cs j) (us.getD j undef) ∧ (us.getD j undef).oneCell' = true) :
    NextAt k F base w0 ρ w (st.newAt k d (.ptr k 0 0 0) (.box T cs)) (a.put (some d) (.pointer (some ⟨w.heap.size, 0, none⟩))) (w.alloc (.cells us T)) := by
  refine next_new hH hE hnn hk (below_alloc _ _) (fun _ b hb => by simp only [blockOf, Option.some.injEq] at hb; omega) hd rfl (fun S hS _ hs => ?_) (fun S => ?_)
  · refine ⟨w.heap.size, us, upd_same _ _ _, hH.hbase _ (Nat.le_refl _), alloc_cells _ _ _, hn, fun j hj => ⟨(hc j hj).1.mono hs hS (fun id x h => ?_), (hc j hj).2⟩⟩
    rw [upd_ne _ _ (fun e => by rw [e, hnn] at h; cases h)]; exact h
  · have := @VRel.ptr (upd ρ k (.pointer (some ⟨w.heap.size, 0, none⟩))) S (w.alloc (.cells us T)) k 0 0 0 w.heap.size _ (upd_same _ _ _) rfl
    simpa using this

def zeroT (P : Program) (T : TypeId) : Option (List V) :=
  match P.info? T with
  | some i => match i.zero with
    | some z => bif z.cells.toList.all (fun u => u.oneCell') then some (z.cells.toList.map .lit) else none
    | none => none
  | none => none
theorem lits_rel {ρ : Nat → Option Value} {S : Nat → Prop} {w : World} {us : Array Value} (h : us.toList.all (fun u => u.oneCell') = true) : us.size = (us.toList.map V.lit).length ∧ ∀ j, j < (us.toList.map V.lit).length → VRel ρ S w (cAt (us.toList.map V.lit) j) (us.getD j undef) ∧ (us.getD j undef).oneCell' = true := by
  refine ⟨by simp, fun j hj => ?_⟩
  simp only [List.length_map, Array.length_toList] at hj
  have e1 : cAt (us.toList.map V.lit) j = .lit (us.getD j undef) := by
    unfold cAt
    rw [List.getD_eq_getElem?_getD, List.getElem?_map, List.getElem?_eq_getElem (by simpa using hj)]
    simp [hj]
  have ho : (us.getD j undef).oneCell' = true := by
    rw [List.all_eq_true] at h
    refine h _ ?_
    simp [hj]
  rw [e1]
  exact ⟨.pure (.lit _ ho), ho⟩
theorem zeroT_spec {T : TypeId} {cs : List V} (h : zeroT P T = some cs) : ∃ z : Value, cs = z.cells.toList.map .lit ∧ z.cells.toList.all (fun u => u.oneCell') = true ∧ ∀ w, (zeroValue T).run P w = .ok z w := by
  unfold zeroT at h
  split at h
  · rename_i i hi
    split at h
    · rename_i z hz
      cases hb : z.cells.toList.all (fun u => u.oneCell') with
      | false => rw [hb] at h; cases h
      | true =>
        rw [hb] at h
        simp only [cond_true, Option.some.injEq] at h
        exact ⟨z, h.symm, hb, fun w => by simp [zeroValue, typeInfo, hi, hz, Sem.run_bind, Sem.run_pure, program, Sem.run]⟩
    · cases h
  · cases h
theorem run_newVar (T : TypeId) (v : Value) (w : World) : (newVar T v).run P w = .ok ⟨w.heap.size, 0, none⟩ (w.alloc (.cells v.cells T)) := by
  rfl

theorem a_alloc {k : Nat} {T : TypeId} {d : Nat} {cs : List V} (ho : o.op = .alloc T) (hd : o.dst = some d) (hdn : Nat.blt d st.nt = true) (hz : zeroT P T = some cs) :
    GAt P k o st (st.newAt k d (.ptr k 0 0 0) (.box T cs)) := fun F base w0 ρ a w hH hE hnn hk => by
  obtain ⟨z, rfl, hz2, hz3⟩ := zeroT_spec hz
  obtain ⟨l1, l2⟩ := lits_rel (ρ := ρ) (S := Stab F ρ st.heap) (w := w) hz2
  refine wp_of_value (u := .pointer (some ⟨w.heap.size, 0, none⟩)) (w' := w.alloc (.cells z.cells T)) ?_ ?_
  · unfold execOp; rw [ho]
    simp [Instr.alloc, Sem.run_bind, hz3, run_newVar]
  · rw [hd]
    exact next_box hH hE hnn hk (Nat.le_of_ble_eq_true hdn) l1 l2
theorem a_box {k : Nat} {T : TypeId} {x : Operand} {d : Nat} {v : V} {cs : List V} (ho : o.op = .box T x) (hd : o.dst = some d) (hdn : Nat.blt d st.nt = true) (hx : opE st.env x = some v) (hf : flat v = some cs) :
    GAt P k o st (st.newAt k d (.ptr k 0 0 0) (.box T cs)) := fun F base w0 ρ a w hH hE hnn hk => by
  obtain ⟨l1, l2⟩ := flat_spec (opE_sound hE hx) hf (fun id x h => (hH.sup id x h).2)
  refine wp_of_value (u := .pointer (some ⟨w.heap.size, 0, none⟩)) (w' := w.alloc (.cells (a.eval x).cells T)) ?_ ?_
  · unfold execOp; rw [ho]
    simp [Instr.box, run_newVar]
  · rw [hd]
    exact next_box hH hE hnn hk (Nat.le_of_ble_eq_true hdn) l1 l2
theorem g_alloc {T : TypeId} {d : Nat} {cs : List V} (ho : o.op = .alloc T) (hd : o.dst = some d) (hdn : Nat.blt d st.nt = true) (hn0 : Nat.ble n0 st.next = true) (hz : zeroT P T = some cs) :
    GStep P n0 o st (st.new d (.ptr st.next 0 0 0) (.box T cs)) := gstep_of_at (Nat.le_of_ble_eq_true hn0) (a_alloc (st := { st with next := st.next + 1 }) ho hd hdn hz)
theorem g_box {T : TypeId} {x : Operand} {d : Nat} {v : V} {cs : List V} (ho : o.op = .box T x) (hd : o.dst = some d) (hdn : Nat.blt d st.nt = true) (hn0 : Nat.ble n0 st.next = true) (hx : opE st.env x = some v) (hf : flat v = some cs) :
    GStep P n0 o st (st.new d (.ptr st.next 0 0 0) (.box T cs)) := gstep_of_at (Nat.le_of_ble_eq_true hn0) (a_box (st := { st with next := st.next + 1 }) ho hd hdn hx hf)

/-! ### Stores -/
def setAt : Nat → List V → List V → List V
  | 0, [], cs => cs
  | 0, v :: vs, _ :: cs => v :: setAt 0 vs cs
  | n + 1, vs, c :: cs => c :: setAt n vs cs
  | _, _, [] => []
theorem length_setAt : ∀ (n : Nat) (vs cs : List V), (setAt n vs cs).length = cs.length
  | 0, [], cs => by simp [setAt]
  | 0, v :: vs, c :: cs => by simp [setAt, length_setAt 0 vs cs]
  | n + 1, vs, c :: cs => by simp [setAt, length_setAt n vs cs]
  | 0, v :: vs, [] => rfl
  | n + 1, vs, [] => rfl
theorem cAt_setAt : ∀ (n : Nat) (vs cs : List V), n + vs.length ≤ cs.length → ∀ j, cAt (setAt n vs cs) j = if n ≤ j ∧ j < n + vs.length then cAt vs (j - n) else cAt cs j
  | 0, [], cs, _, j => by simp [setAt]
  | 0, v :: vs, c :: cs, h, j => by
    simp only [List.length_cons] at h
    cases j with
    | zero => simp [setAt, cAt]
    | succ j =>
      have := cAt_setAt 0 vs cs (by omega) j
      simp only [setAt]
      have e : cAt (v :: setAt 0 vs cs) (j + 1) = cAt (setAt 0 vs cs) j := by simp [cAt]
      rw [e, this]
      simp only [Nat.zero_le, true_and, Nat.zero_add, List.length_cons, Nat.sub_zero]
      have e2 : cAt (v :: vs) (j + 1) = cAt vs j := by simp [cAt]
      have e3 : cAt (c :: cs) (j + 1) = cAt cs j := by simp [cAt]
      rw [e2, e3]
      by_cases hh : j < vs.length
      · rw [if_pos hh, if_pos (by omega)]
      · rw [if_neg hh, if_neg (by omega)]
  | n + 1, vs, c :: cs, h, j => by
    simp only [List.length_cons] at h
    cases j with
    | zero => simp [setAt, cAt]
    | succ j =>
      have := cAt_setAt n vs cs (by omega) j
      simp only [setAt]
      have e : cAt (c :: setAt n vs cs) (j + 1) = cAt (setAt n vs cs) j := by simp [cAt]
      rw [e, this]
      have e3 : cAt (c :: cs) (j + 1) = cAt cs j := by simp [cAt]
      rw [e3]
      by_cases hh : n ≤ j ∧ j < n + vs.length
      · rw [if_pos hh, if_pos (by omega)]; congr 1; omega
      · rw [if_neg hh, if_neg (by omega)]
  | 0, v :: vs, [], h, j => by simp at h
  | n + 1, vs, [], h, j => by simp at h

theorem run_store {T : TypeId} {n g off : Nat} {t : TypeId} {cur : Array Value} {u : Value} {w : World} (hT : sizeT P T = some n) (hn : u.cells.size = n) (hg : w.heap[g]? = some (.cells cur t (0, 0))) (hl : off + n ≤ cur.size) (h1 : ∀ v ∈ u.cells.toList, v.oneCell' = true) :
    (Instr.storeAt T (.pointer (some ⟨g, off, none⟩)) u).run P w = .ok () (w.setRow g (cur.toList.take off ++ u.cells.toList ++ cur.toList.drop (off + n)).toArray) := by
  have hst := run_storeCells_at P g off t u.cells.toList 0 cur w hg (by simp; omega) h1
  simp only [Nat.add_zero, Array.length_toList, hn] at hst
  simp [Instr.storeAt, Instr.sureAddr, storeVar, run_sizeT hT, hn, Sem.run_bind, hst]
theorem splice_get {us vs : Array Value} {off j : Nat} (h : off + vs.size ≤ us.size) (hj : j < us.size) : ((us.toList.take off ++ vs.toList ++ us.toList.drop (off + vs.size)).toArray).getD j undef = if off ≤ j ∧ j < off + vs.size then vs.getD (j - off) undef else us.getD j undef := by
  simp only [Array.getD_eq_getD_getElem?, List.getElem?_toArray, List.append_assoc]
  by_cases h1 : j < off
  · rw [List.getElem?_append_left (by simp; omega), if_neg (by omega), List.getElem?_take, if_pos h1]; simp
  · rw [List.getElem?_append_right (by simp; omega)]
    have e : (us.toList.take off).length = off := by simp; omega
    rw [e]
    by_cases h2 : j < off + vs.size
    · rw [List.getElem?_append_left (by simp; omega), if_pos (by omega)]; simp
    · rw [List.getElem?_append_right (by simp; omega), if_neg (by omega), List.getElem?_drop]
      have e2 : off + vs.size + (j - off - vs.toList.length) = j := by simp; omega
      rw [e2]; simp
theorem splice_size {us vs : Array Value} {off : Nat} (h : off + vs.size ≤ us.size) : ((us.toList.take off ++ vs.toList ++ us.toList.drop (off + vs.size)).toArray).size = us.size := by
  simp; omega

theorem setRow_grown (w : World) (g : Nat) (cs : Array Value) : w.grownBy (w.setRow g cs) (some g) := ⟨rfl, rfl, rfl, by simp, fun k _ hk => setRow_other w g k cs (fun e => hk (by rw [e]))⟩

theorem mem_of_notIn {id : Nat} : ∀ {G : List Nat}, notIn id G = false → id ∈ G
  | [], h => by simp [notIn] at h
  | x :: r, h => by
    simp only [notIn] at h
    cases hb : Nat.beq x id with
    | true => rw [Nat.eq_of_beq_eq_true hb]; exact List.mem_cons_self
    | false => rw [hb] at h; exact List.mem_cons_of_mem _ (mem_of_notIn h)
theorem HRel.some_of {F : Nat → Prop} {base : Nat → Prop} {ρ : Nat → Option Value} {heap : List (Nat × Option Blk)} {next : Nat} {w0 w : World} (h : HRel F base ρ heap next w0 w) {id : Nat} {B : Blk} (hB : getH heap id = some B) : ∃ u, ρ id = some u := by
  have := h.blk _ _ hB
  cases B with
  | box t cs => obtain ⟨b, us, h1, _⟩ := this; exact ⟨_, h1⟩
  | row e s l => obtain ⟨_, v, xs, h1, _⟩ := this; exact ⟨_, h1⟩
  | fro l => obtain ⟨v, h1, _⟩ := this; exact ⟨_, h1⟩
  | map q es => obtain ⟨b, _, _, h1, _⟩ := this; exact ⟨_, h1⟩
  | obj o => obtain ⟨b, h1, _⟩ := this; exact ⟨_, h1⟩

theorem g_store_box {T : TypeId} {x y : Operand} {id s j t : Nat} {cs vs : List V} {v : V} (ho : o.op = .store T x y) (hd : o.dst = none) (hx : opE st.env x = some (.ptr id 0 s j)) (hh : getH st.heap id = some (.box t cs)) (hy : opE st.env y = some v)
    (hf : flat v = some vs) (hT : sizeT P T = some vs.length) (hl : Nat.ble (j + vs.length) cs.length = true) :
    GStep P n0 o st { st with heap := (id, some (.box t (setAt j vs cs))) :: st.heap } := fun F base w0 ρ a w hH hE => by
  have hl := Nat.le_of_ble_eq_true hl
  obtain ⟨r, b, h1, h2, h3⟩ := ptr_inv (opE_sound hE hx)
  obtain ⟨b', us, e1, e2, e3, e4, e5⟩ := hH.blk _ _ hh
  rw [h1] at e1; injection e1 with e1; subst e1
  simp only [blockOf, Option.some.injEq] at h2
  subst h2
  obtain ⟨l1, l2⟩ := flat_spec (opE_sound hE hy) hf (fun id x h => (hH.sup id x h).2)
  have hone : ∀ v ∈ (a.eval y).cells.toList, v.oneCell' = true := fun v hv => by
    obtain ⟨i, hi, rfl⟩ := List.getElem_of_mem hv
    simp only [Array.length_toList] at hi
    have := (l2 i (by omega)).2
    simpa [hi] using this
  have hrun := run_store (P := P) (T := T) (n := vs.length) (g := b') (off := j) hT l1 e3 (by omega) hone
  have hlt := (Array.getElem?_eq_some_iff.1 e3).1
  have hns : ¬ Stab F ρ st.heap b' := fun hs => hs.2 id _ _ hh rfl h1 rfl
  refine wp_of_skip (w' := w.setRow b' (us.toList.take j ++ (a.eval y).cells.toList ++ us.toList.drop (j + vs.length)).toArray) ?_ ?_
  · unfold execOp; rw [ho]
    simp only [h3, Nat.zero_mul, Nat.zero_add, Sem.run_bind, hrun]; rfl
  · rw [hd]
    have hsz := splice_size (us := us) (vs := (a.eval y).cells) (off := j) (by omega)
    have hgt := fun i => splice_get (us := us) (vs := (a.eval y).cells) (off := j) (j := i) (by omega)
    rw [l1] at hsz hgt
    generalize (us.toList.take j ++ (a.eval y).cells.toList ++ us.toList.drop (j + vs.length)).toArray = N at hsz hgt ⊢
    obtain ⟨q1, q2, q3⟩ := hH.step (ρ' := ρ) (heap' := (id, some (.box t (setAt j vs cs))) :: st.heap) (next' := st.next) id (some b') (setRow_grown w b' N)
      (fun k hk => by injection hk with hk; subst hk; exact ⟨e2, hns⟩) (fun _ _ h => h) (fun id u h => hH.sup id u h)
      (fun i B hne hB => by
        rw [getH_new, if_neg (Ne.symm hne)] at hB
        refine ⟨hB, ?_⟩
        obtain ⟨u, hu⟩ := hH.some_of hB
        exact ⟨u, hu, fun ho b hb e => by injection e with e; subst e; exact hne (hH.inj i id B _ u _ b' hB hh ho rfl hu h1 hb rfl)⟩)
      (fun B u b hB ho hu hb => by
        rw [h1] at hu; injection hu with hu; subst hu
        simp only [blockOf, Option.some.injEq] at hb; subst hb
        refine .inr ⟨hns, fun i B' u' hne hB' ho' hu' hb' => ?_⟩
        rw [getH_new, if_neg (Ne.symm hne)] at hB'
        exact hne (hH.inj i id B' _ u' _ b' hB' hh ho' rfl hu' h1 hb' rfl))
      (fun B hB hS hsame => by
        rw [getH_new, if_pos rfl] at hB; injection hB with hB; subst hB
        refine ⟨b', _, h1, e2, setRow_heap w b' us _ t _ e3, by rw [length_setAt]; omega, fun i hi => ?_⟩
        rw [length_setAt] at hi
        rw [cAt_setAt _ _ _ hl, hgt i (by omega)]
        by_cases hij : j ≤ i ∧ i < j + vs.length
        · rw [if_pos hij, if_pos hij]
          have := l2 (i - j) (by omega)
          exact ⟨this.1.mono hsame hS (fun _ _ h => h), this.2⟩
        · rw [if_neg hij, if_neg hij]
          exact ⟨(e5 i hi).1.mono hsame hS (fun _ _ h => h), (e5 i hi).2⟩)
    exact ⟨ρ, q1, hE.mono q2 q3 (fun _ _ h => h), fun _ _ h => h, fun _ _ => rfl⟩

/-- data alone -/
def pureV : V → Bool
  | .lit _ => true
  | .ro _ => true
  | _ => false
theorem pure_rel {ρ : Nat → Option Value} {S : Nat → Prop} {w : World} {v : V} {u : Value} (h : VRel ρ S w v u) (hp : pureV v = true) : PRel S w v u := by
  cases h with
  | pure h => exact h
  | _ => cases hp

theorem g_store_row {T : TypeId} {x y : Operand} {id i j e s : Nat} {l : List (List V)} {vs : List V} {v : V} (ho : o.op = .store T x y) (hd : o.dst = none) (hx : opE st.env x = some (.ptr id i s j)) (hh : getH st.heap id = some (.row e s l)) (hi : i < l.length) (hy : opE st.env y = some v)
    (hf : flat v = some vs) (hp : vs.all pureV = true) (hT : sizeT P T = some vs.length) (hl : Nat.ble (j + vs.length) s = true) :
    GStep P n0 o st { st with heap := (id, some (.row e s (l.set i (setAt j vs (eAt l i))))) :: st.heap } := fun F base w0 ρ a w hH hE => by
  have hl := Nat.le_of_ble_eq_true hl
  obtain ⟨r, b, h1, h2, h3⟩ := ptr_inv (opE_sound hE hx)
  obtain ⟨hs0, v', xs, e1, ⟨e2, e2b⟩, e3, e4⟩ := hH.blk _ _ hh
  rw [h1] at e1; injection e1 with e1; subst e1
  obtain ⟨hxl, hcase⟩ := e2
  rcases hcase with ⟨rfl, _⟩ | ⟨g, cap, cur, rfl, hbg, hg, hnc, hcm, hcs, htake⟩
  · simp [blockOf] at h2
  simp only [blockOf, Option.some.injEq] at h2
  subst h2
  obtain ⟨l1, l2⟩ := flat_spec (opE_sound hE hy) hf (fun id x h => (hH.sup id x h).2)
  have hone : ∀ v ∈ (a.eval y).cells.toList, v.oneCell' = true := fun v hv => by
    obtain ⟨i, hi, rfl⟩ := List.getElem_of_mem hv
    simp only [Array.length_toList] at hi
    have := (l2 i (by omega)).2
    simpa [hi] using this
  have hlen : (eAt l i).length = s := e3 i hi
  have hmul : (i + 1) * s ≤ l.length * s := Nat.mul_le_mul_right s hi
  have hmul2 : l.length * s ≤ cap * s := Nat.mul_le_mul_right s hnc
  have hmul3 : (i + 1) * s = i * s + s := Nat.succ_mul i s
  have hrun := run_store (P := P) (T := T) (n := vs.length) (g := g) (off := i * s + j) hT l1 hg (by omega) hone
  have hlt := (Array.getElem?_eq_some_iff.1 hg).1
  have hns : ¬ Stab F ρ st.heap g := fun hs => hs.2 id _ _ hh rfl h1 rfl
  refine wp_of_skip (w' := w.setRow g (cur.toList.take (i * s + j) ++ (a.eval y).cells.toList ++ cur.toList.drop (i * s + j + vs.length)).toArray) ?_ ?_
  · unfold execOp; rw [ho]
    simp only [h3, Sem.run_bind, hrun]; rfl
  · rw [hd]
    have hsz := splice_size (us := cur) (vs := (a.eval y).cells) (off := i * s + j) (by omega)
    have hgt := fun k => splice_get (us := cur) (vs := (a.eval y).cells) (off := i * s + j) (j := k) (by omega)
    rw [l1] at hsz hgt
    generalize (cur.toList.take (i * s + j) ++ (a.eval y).cells.toList ++ cur.toList.drop (i * s + j + vs.length)).toArray = N at hsz hgt ⊢
    obtain ⟨q1, q2, q3⟩ := hH.step (ρ' := ρ) (heap' := (id, some (.row e s (l.set i (setAt j vs (eAt l i))))) :: st.heap) (next' := st.next) id (some g) (setRow_grown w g N)
      (fun k hk => by injection hk with hk; subst hk; exact ⟨e2b _ rfl, hns⟩) (fun _ _ h => h) (fun id u h => hH.sup id u h)
      (fun i B hne hB => by
        rw [getH_new, if_neg (Ne.symm hne)] at hB
        refine ⟨hB, ?_⟩
        obtain ⟨u, hu⟩ := hH.some_of hB
        exact ⟨u, hu, fun ho b hb e => by injection e with e; subst e; exact hne (hH.inj i id B _ u _ g hB hh ho rfl hu h1 hb rfl)⟩)
      (fun B u b hB ho hu hb => by
        rw [h1] at hu; injection hu with hu; subst hu
        simp only [blockOf, Option.some.injEq] at hb; subst hb
        refine .inr ⟨hns, fun i B' u' hne hB' ho' hu' hb' => ?_⟩
        rw [getH_new, if_neg (Ne.symm hne)] at hB'
        exact hne (hH.inj i id B' _ u' _ g hB' hh ho' rfl hu' h1 hb' rfl))
      (fun B hB hS hsame => by
        rw [getH_new, if_pos rfl] at hB; injection hB with hB; subst hB
        have hlset : (l.set i (setAt j vs (eAt l i))).length = l.length := by simp
        have heAt : ∀ k, eAt (l.set i (setAt j vs (eAt l i))) k = if i = k then setAt j vs (eAt l i) else eAt l k := fun k => by
          unfold eAt
          rw [List.getD_eq_getElem?_getD, List.getD_eq_getElem?_getD, List.getD_eq_getElem?_getD, List.getElem?_set]
          by_cases hik : i = k
          · subst hik; simp [hi]
          · simp [hik]
        refine ⟨hs0, _, N.toList.take (l.length * s), h1, ⟨⟨by rw [hlset]; simp; omega, .inr ⟨g, cap, N, by rw [hlset], hbg, setRow_heap w g cur N e _ hg, by rw [hlset]; exact hnc, hcm, by omega, by rw [hlset]⟩⟩, e2b⟩, fun k hk => ?_, fun k c hk hc => ?_⟩
        · rw [heAt]; rw [hlset] at hk
          by_cases hik : i = k
          · rw [if_pos hik, length_setAt]; exact hlen
          · rw [if_neg hik]; exact e3 k hk
        · rw [hlset] at hk
          have hk1 : (k + 1) * s ≤ l.length * s := Nat.mul_le_mul_right s hk
          have hk3 : (k + 1) * s = k * s + s := Nat.succ_mul k s
          have hin : (N.toList.take (l.length * s))[k * s + c]? = some (N.getD (k * s + c) undef) := by
            rw [List.getElem?_take, if_pos (by omega)]
            simp [show k * s + c < N.size by omega]
          refine ⟨_, hin, ?_⟩
          rw [heAt, hgt (k * s + c) (by omega)]
          obtain ⟨u0, hu0, hp0, ho0⟩ := e4 k c hk hc
          have hu0' : cur.getD (k * s + c) undef = u0 := by
            rw [← htake, List.getElem?_take, if_pos (by omega)] at hu0
            simp only [Array.getElem?_toList] at hu0
            rw [Array.getD_eq_getD_getElem?, hu0]; rfl
          by_cases hik : i = k
          · subst hik
            rw [if_pos rfl, cAt_setAt _ _ _ (by omega)]
            by_cases hjc : j ≤ c ∧ c < j + vs.length
            · rw [if_pos hjc, if_pos (by omega), show i * s + c - (i * s + j) = c - j by omega]
              have hq := l2 (c - j) (by omega)
              refine ⟨(pure_rel hq.1 ?_).mono hsame hS, hq.2⟩
              rw [List.all_eq_true] at hp
              refine hp _ ?_
              unfold cAt
              rw [List.getD_eq_getElem?_getD, List.getElem?_eq_getElem (by omega)]
              exact List.getElem_mem _
            · rw [if_neg hjc, if_neg (by omega), hu0']
              exact ⟨hp0.mono hsame hS, ho0⟩
          · rw [if_neg hik]
            have hdis : ¬ (i * s + j ≤ k * s + c ∧ k * s + c < i * s + j + vs.length) := by
              rintro ⟨g1, g2⟩
              rcases Nat.lt_or_gt_of_ne hik with hh | hh
              · have : (i + 1) * s ≤ k * s := Nat.mul_le_mul_right s hh
                omega
              · have : (k + 1) * s ≤ i * s := Nat.mul_le_mul_right s hh
                omega
            rw [if_neg hdis, hu0']
            exact ⟨hp0.mono hsame hS, ho0⟩)
    exact ⟨ρ, q1, hE.mono q2 q3 (fun _ _ h => h), fun _ _ h => h, fun _ _ => rfl⟩
end
end Go.Proofs.Ytnbbnedpjfanoaa
