/-
  A VALUE CALCULUS OVER THE MODEL, part 5: regions in the order of the text, branches, loops, calls, functions. Plain lemmas, over any program.
-/
import Derived.Test.YtnbbnedpjfanoaaAbs4
import Derived.Deep.LoopGhost
set_option linter.unusedVariables false
set_option linter.unusedSimpArgs false
set_option linter.unusedVariables false
namespace Go.Proofs.Ytnbbnedpjfanoaa
open Go.RowKit
section
variable {P : Program} {n0 : Nat}

def Post (n0 : Nat) (F : Nat → Prop) (base : Nat → Prop) (w0 : World) (ρ : Nat → Option Value) (Q : Exit → St → Prop) (e : Exit) (a : Act) (w : World) : Prop :=
  ∃ ρ' st, Q e st ∧ HRel F base ρ' st.heap st.next w0 w ∧ ERel ρ' (Stab F ρ' st.heap) w st.nt st.env a ∧ ∀ id, id < n0 → ρ' id = ρ id

/-- from every world that the state describes the code comes to an end at Q -/
def Run (P : Program) (n0 : Nat) (c : Code) (st : St) (Q : Exit → St → Prop) : Prop :=
  ∀ F base w0 ρ a w, HRel F base ρ st.heap st.next w0 w → ERel ρ (Stab F ρ st.heap) w st.nt st.env a → c.wp P (Post n0 F base w0 ρ Q) a w
def NQ (Q : St → Prop) (e : Exit) (st : St) : Prop := e = .normal ∧ Q st
def RunL (P : Program) (n0 : Nat) (ops : Array Oper) (l : List Oper) (st : St) (Q : St → Prop) : Prop :=
  ∀ F base w0 ρ a w, HRel F base ρ st.heap st.next w0 w → ERel ρ (Stab F ρ st.heap) w st.nt st.env a → wpList P ops (Post n0 F base w0 ρ (NQ Q)) l a w

theorem Post.trans {F : Nat → Prop} {base : Nat → Prop} {w0 : World} {ρ ρ' : Nat → Option Value} {Q : Exit → St → Prop} {e : Exit} {a : Act} {w : World} (hρ : ∀ id, id < n0 → ρ' id = ρ id) (h : Post n0 F base w0 ρ' Q e a w) : Post n0 F base w0 ρ Q e a w :=
  let ⟨ρ'', st, h1, h2, h3, h4⟩ := h
  ⟨ρ'', st, h1, h2, h3, fun id hid => (h4 id hid).trans (hρ id hid)⟩
theorem Post.mono {F : Nat → Prop} {base : Nat → Prop} {w0 : World} {ρ : Nat → Option Value} {Q Q' : Exit → St → Prop} (hQ : ∀ e st, Q e st → Q' e st) {e : Exit} {a : Act} {w : World} (h : Post n0 F base w0 ρ Q e a w) : Post n0 F base w0 ρ Q' e a w :=
  let ⟨ρ'', st, h1, h2, h3, h4⟩ := h
  ⟨ρ'', st, hQ _ _ h1, h2, h3, h4⟩

theorem upon_mono {o : Oper} {a : Act} {w : World} {K K' : Act → World → Prop} {Q Q' : Exit → Act → World → Prop} (h : ∀ a w, K a w → K' a w) (hQ : ∀ e a w, Q e a w → Q' e a w) (hh : o.wp P a w K Q) : o.wp P a w K' Q' := by
  unfold Oper.wp at *
  generalize (execOp a.eval o).run P w = r at *
  cases r with
  | ok n w' =>
    cases n <;> simp only [Oper.upon] at hh ⊢ <;>
      first
        | exact h _ _ hh
        | exact Calls.mono hh (fun e w'' he => by cases e <;> first | exact h _ _ he | exact hQ _ _ _ he | (obtain ⟨a, w, he⟩ := he; exact ⟨a, w, hQ _ _ _ he⟩))
        | exact Rows.mono hh (fun _ _ he => h _ _ he)
  | halt x w' => cases x <;> simp only [Oper.upon] at hh ⊢ <;> first | exact hQ _ _ _ hh | exact hh
theorem wpList_mono {ops : Array Oper} {Q Q' : Exit → Act → World → Prop} (hQ : ∀ e a w, Q e a w → Q' e a w) : ∀ (l : List Oper) (a : Act) (w : World), wpList P ops Q l a w → wpList P ops Q' l a w
  | [], _, _, h => hQ _ _ _ h
  | o :: rest, a, w, h => by
    unfold wpList at h ⊢
    split
    · rename_i hw
      rw [if_pos hw] at h
      rcases h with h | ⟨h1, a, w, h2⟩
      · exact .inl (upon_mono (wpList_mono hQ rest) hQ h)
      · exact .inr ⟨h1, a, w, hQ _ _ _ h2⟩
    · rename_i hw
      rw [if_neg hw] at h
      exact wpList_mono hQ rest _ _ h

/-! ### The operations of a region -/
def guardV (env : List (Nat × V)) (ops : List Oper) : Option (Nat × Bool) → Option Bool
  | none => some true
  | some (j, b) => match ops[j]? with
    | some oj => match oj.dst with
      | some d => match getE env d with
        | some (.lit (.bool b')) => some (bif b then b' else !b')
        | some .und => some false
        | _ => none
      | none => none
    | none => none
theorem und_inv {ρ : Nat → Option Value} {S : Nat → Prop} {w : World} {u : Value} (h : VRel ρ S w .und u) : u = undef := by
  cases h with
  | pure h => cases h
  | und => rfl
theorem guardV_spec {ρ : Nat → Option Value} {S : Nat → Prop} {w : World} {nt : Nat} {env : List (Nat × V)} {a : Act} (hE : ERel ρ S w nt env a) {ops : List Oper} {o : Oper} {b : Bool} (h : guardV env ops o.guard = some b) :
    Region.wanted o (yielded ops.toArray a.tmps) = b := by
  unfold Region.wanted
  cases hg : o.guard with
  | none => rw [hg] at h; simp only [guardV, Option.some.injEq] at h; exact h
  | some jb =>
    obtain ⟨j, want⟩ := jb
    rw [hg] at h
    simp only [guardV] at h
    unfold yielded
    cases hj : ops[j]? with
    | none => rw [hj] at h; cases h
    | some oj =>
      simp only [hj] at h
      simp only [List.getElem?_toArray, hj, Option.bind_some]
      cases hd : oj.dst with
      | none => simp only [hd] at h; cases h
      | some d =>
        simp only [hd] at h
        simp only [Option.bind_some]
        cases he : getE env d with
        | none => simp only [he] at h; cases h
        | some v =>
          simp only [he] at h
          have hv := hE.slot d v he
          cases v with
          | lit u =>
            cases u with
            | bool b' =>
              have e := lit_inv hv
              have : a.tmps[d]? = some (.bool b') := by
                rw [Array.getD_eq_getD_getElem?] at e
                cases h3 : a.tmps[d]? with
                | none => rw [h3] at e; simp [undef] at e
                | some x => rw [h3] at e; simp at e; rw [e]
              rw [this]
              simp only [Option.some.injEq] at h
              subst h
              cases want <;> cases b' <;> rfl
            | _ => cases h
          | und =>
            simp only [Option.some.injEq] at h
            subst h
            have e : a.tmps.getD d undef = undef := und_inv hv
            rw [Array.getD_eq_getD_getElem?] at e
            cases h3 : a.tmps[d]? with
            | none => rfl
            | some x => rw [h3] at e; simp at e; rw [e]; rfl
          | _ => cases h

def dstOk (nt : Nat) : Option Tmp → Bool
  | some d => Nat.blt d nt
  | none => true
theorem ERel.putD {ρ : Nat → Option Value} {S : Nat → Prop} {w : World} {a : Act} {st : St} (h : ERel ρ S w st.nt st.env a) {d : Option Tmp} (hd : dstOk st.nt d = true) {v : V} {u : Value} (hv : VRel ρ S w v u) :
    ERel ρ S w (st.put d v).nt (st.put d v).env (a.put d u) := by
  cases d with
  | none => exact h
  | some d => exact h.put (Nat.le_of_ble_eq_true hd) hv
theorem put_heap (st : St) (d : Option Tmp) (v : V) : (st.put d v).heap = st.heap ∧ (st.put d v).next = st.next := by cases d <;> exact ⟨rfl, rfl⟩

theorem l_nil {ops : Array Oper} {st : St} {Q : St → Prop} (h : Q st) : RunL P n0 ops [] st Q :=
  fun F base w0 ρ a w hH hE => ⟨ρ, st, ⟨rfl, h⟩, hH, hE, fun _ _ => rfl⟩
theorem l_skip {ops : List Oper} {o : Oper} {rest : List Oper} {st : St} {Q : St → Prop} (hg : guardV st.env ops o.guard = some false) (hd : dstOk st.nt o.dst = true) (h : RunL P n0 ops.toArray rest (st.put o.dst .und) Q) : RunL P n0 ops.toArray (o :: rest) st Q :=
  fun F base w0 ρ a w hH hE => wpList_step fun K hK => by
    rw [if_neg (by rw [guardV_spec hE hg]; exact Bool.false_ne_true)]
    obtain ⟨e1, e2⟩ := put_heap st o.dst .und
    exact hK _ _ (h F base w0 ρ _ w (by rw [e1, e2]; exact hH) (by rw [e1]; exact hE.putD hd .und))
theorem l_q {ops : List Oper} {o : Oper} {rest : List Oper} {st : St} {Q : St → Prop} {v : V} (hg : guardV st.env ops o.guard = some true) (hd : dstOk st.nt o.dst = true) (hq : QStep P [] o st v) (h : RunL P n0 ops.toArray rest (st.put o.dst v) Q) : RunL P n0 ops.toArray (o :: rest) st Q :=
  fun F base w0 ρ a w hH hE => wpList_step fun K hK => by
    rw [if_pos (guardV_spec hE hg)]
    obtain ⟨u, h1, h2⟩ := hq F base w0 ρ a w hH.toHRel0 hE rfl
    obtain ⟨e1, e2⟩ := put_heap st o.dst v
    exact wp_of_value (h2 w (Ext.refl _ _)) (hK _ _ (h F base w0 ρ _ w (by rw [e1, e2]; exact hH) (by rw [e1]; exact hE.putD hd h1)))
theorem l_g {ops : List Oper} {o : Oper} {rest : List Oper} {st st' : St} {Q : St → Prop} (hg : guardV st.env ops o.guard = some true) (hs : GStep P n0 o st st') (h : RunL P n0 ops.toArray rest st' Q) : RunL P n0 ops.toArray (o :: rest) st Q :=
  fun F base w0 ρ a w hH hE => wpList_step fun K hK => by
    rw [if_pos (guardV_spec hE hg)]
    refine upon_mono (fun a' w' h' => ?_) (fun e a w h => h.elim) (hs F base w0 ρ a w hH hE)
    obtain ⟨ρ', h1, h2, h3, h4⟩ := h'
    refine hK _ _ ?_
    have := h F base w0 ρ' a' w' h1 h2
    exact wpList_mono (fun e a w hp => Post.trans h4 hp) _ _ _ this
/-- to know less, or to hold less for one's own -/
def Less (P : Program) (n0 : Nat) (st st' : St) : Prop := ∀ F base w0 ρ a w, HRel F base ρ st.heap st.next w0 w → ERel ρ (Stab F ρ st.heap) w st.nt st.env a →
  ∃ ρ', HRel F base ρ' st'.heap st'.next w0 w ∧ ERel ρ' (Stab F ρ' st'.heap) w st'.nt st'.env a ∧ ∀ id, id < n0 → ρ' id = ρ id
theorem l_less {ops : Array Oper} {l : List Oper} {st st' : St} {Q : St → Prop} (hl : Less P n0 st st') (h : RunL P n0 ops l st' Q) : RunL P n0 ops l st Q :=
  fun F base w0 ρ a w hH hE => by
    obtain ⟨ρ', h1, h2, h3⟩ := hl F base w0 ρ a w hH hE
    exact wpList_mono (fun e a w hp => Post.trans h3 hp) _ _ _ (h F base w0 ρ' a w h1 h2)
theorem r_less {c : Code} {st st' : St} {Q : Exit → St → Prop} (hl : Less P n0 st st') (h : Run P n0 c st' Q) : Run P n0 c st Q :=
  fun F base w0 ρ a w hH hE => by
    obtain ⟨ρ', h1, h2, h3⟩ := hl F base w0 ρ a w hH hE
    exact wp_mono (h F base w0 ρ' a w h1 h2) (fun e a w hp => Post.trans h3 hp)

/-! ### Code -/
theorem r_mono {c : Code} {st : St} {Q Q' : Exit → St → Prop} (h : Run P n0 c st Q) (hq : ∀ e st, Q e st → Q' e st) : Run P n0 c st Q' :=
  fun F base w0 ρ a w hH hE => wp_mono (h F base w0 ρ a w hH hE) (fun e a w hp => Post.mono hq hp)
theorem r_region {id : Nat} {l : List Oper} {st : St} {Q : Exit → St → Prop} (h : RunL P n0 l.toArray l st (Q .normal)) : Run P n0 (.region id l.toArray false) st Q :=
  fun F base w0 ρ a w hH hE => wp_region_lit (wpList_mono (fun e a w hp => Post.mono (fun e st h => by obtain ⟨rfl, h⟩ := h; exact h) hp) _ _ _ (h F base w0 ρ a w hH hE))
theorem r_skip {st : St} {Q : Exit → St → Prop} (h : Q .normal st) : Run P n0 .skip st Q := fun F base w0 ρ a w hH hE => wp_skip ⟨ρ, st, h, hH, hE, fun _ _ => rfl⟩
theorem r_ret {st : St} {Q : Exit → St → Prop} (h : Q .ret st) : Run P n0 .ret st Q := fun F base w0 ρ a w hH hE => wp_ret ⟨ρ, st, h, hH, hE, fun _ _ => rfl⟩
theorem r_exit {id : Nat} {st : St} {Q : Exit → St → Prop} (h : Q (.exit id) st) : Run P n0 (.exit id) st Q := fun F base w0 ρ a w hH hE => wp_exit ⟨ρ, st, h, hH, hE, fun _ _ => rfl⟩
theorem r_label {id : Nat} {st : St} {Q : Exit → St → Prop} (h : Q .normal st) : Run P n0 (.label id) st Q := fun F base w0 ρ a w hH hE => wp_label ⟨ρ, st, h, hH, hE, fun _ _ => rfl⟩
def ThenQ (next : St → Prop) (Q : Exit → St → Prop) : Exit → St → Prop
  | .normal, st => next st
  | e, st => Q e st
theorem r_seq {x y : Code} {st : St} {Q : Exit → St → Prop} (h : Run P n0 x st (ThenQ (fun st' => Run P n0 y st' Q) Q)) : Run P n0 (.seq x y) st Q :=
  fun F base w0 ρ a w hH hE => wp_seq (wp_mono (h F base w0 ρ a w hH hE) (fun e a' w' hp => by
    obtain ⟨ρ', st', h1, h2, h3, h4⟩ := hp
    cases e with
    | normal => exact wp_mono (h1 F base w0 ρ' a' w' h2 h3) (fun e a w hp => Post.trans h4 hp)
    | _ => exact ⟨ρ', st', h1, h2, h3, h4⟩))
def BlockQ (id : Nat) (Q : Exit → St → Prop) : Exit → St → Prop
  | .exit i, st => bif Nat.beq i id then Q .normal st else Q (.exit i) st
  | e, st => Q e st
theorem r_block {id : Nat} {c : Code} {st : St} {Q : Exit → St → Prop} (h : Run P n0 c st (BlockQ id Q)) : Run P n0 (.block id c) st Q :=
  fun F base w0 ρ a w hH hE => wp_block (wp_mono (h F base w0 ρ a w hH hE) (fun e a' w' hp => by
    obtain ⟨ρ', st', h1, h2, h3, h4⟩ := hp
    cases e with
    | exit i =>
      simp only [Exit.inBlock]
      simp only [BlockQ] at h1
      split
      · rename_i hi
        subst hi
        simp only [Nat.beq_refl, cond_true] at h1
        exact ⟨ρ', st', h1, h2, h3, h4⟩
      · rename_i hi
        have hb : Nat.beq i id = false := by
          cases hb : Nat.beq i id
          · rfl
          · exact absurd (Nat.eq_of_beq_eq_true hb) hi
        rw [hb] at h1
        exact ⟨ρ', st', h1, h2, h3, h4⟩
    | _ => exact ⟨ρ', st', h1, h2, h3, h4⟩))
theorem r_cond {c : Operand} {x y : Code} {st : St} {Q : Exit → St → Prop} {b : Bool} (hc : opE st.env c = some (.lit (.bool b))) (ht : b = true → Run P n0 x st Q) (hf : b = false → Run P n0 y st Q) : Run P n0 (.cond c x y) st Q :=
  fun F base w0 ρ a w hH hE => by
    refine wp_cond_split (lit_inv (opE_sound hE hc)) (fun h => ht h F base w0 ρ a w hH hE) (fun h => hf h F base w0 ρ a w hH hE)
theorem r_cond_t {c : Operand} {x y : Code} {st : St} {Q : Exit → St → Prop} (hc : opE st.env c = some (.lit (.bool true))) (h : Run P n0 x st Q) : Run P n0 (.cond c x y) st Q := r_cond hc (fun _ => h) (fun h => by cases h)
theorem r_cond_f {c : Operand} {x y : Code} {st : St} {Q : Exit → St → Prop} (hc : opE st.env c = some (.lit (.bool false))) (h : Run P n0 y st Q) : Run P n0 (.cond c x y) st Q := r_cond hc (fun h => by cases h) (fun _ => h)
/-- a loop: at its head one of the states σ x -/
theorem r_loop {X : Type} {c : Code} {st : St} {Q : Exit → St → Prop} (σ : X → St) (μ : X → Nat) (x0 : X) (h0 : Less P n0 st (σ x0))
    (round : ∀ x, Run P n0 c (σ x) (ThenQ (fun st' => ∃ x', μ x' < μ x ∧ Less P n0 st' (σ x')) Q)) : Run P n0 (.loop c) st Q := by
  refine r_less h0 ?_
  intro F base w0 ρ a w hH hE
  refine wp_loop_ghost (fun n a w => ∃ x ρ', μ x = n ∧ HRel F base ρ' (σ x).heap (σ x).next w0 w ∧ ERel ρ' (Stab F ρ' (σ x).heap) w (σ x).nt (σ x).env a ∧ ∀ id, id < n0 → ρ' id = ρ id) (μ x0) ⟨x0, ρ, rfl, hH, hE, fun _ _ => rfl⟩ ?_
  rintro n a w ⟨x, ρ', rfl, h1, h2, h3⟩
  refine wp_mono (round x F base w0 ρ' a w h1 h2) (fun e a' w' hp => ?_)
  obtain ⟨ρ'', st', q1, q2, q3, q4⟩ := hp
  cases e with
  | normal =>
    obtain ⟨x', hx', hl⟩ := q1
    obtain ⟨ρ3, g1, g2, g3⟩ := hl F base w0 ρ'' a' w' q2 q3
    exact ⟨μ x', hx', x', ρ3, rfl, g1, g2, fun id hid => (g3 id hid).trans ((q4 id hid).trans (h3 id hid))⟩
  | _ => exact ⟨ρ'', st', q1, q2, q3, fun id hid => (q4 id hid).trans (h3 id hid)⟩

/-! ### Less -/
def coverE (env : List (Nat × V)) : List (Nat × V) → Prop
  | [] => True
  | (t, v) :: r => getE env t = some v ∧ coverE env r
theorem coverE_spec {env : List (Nat × V)} : ∀ {e : List (Nat × V)}, coverE env e → ∀ t v, getE e t = some v → getE env t = some v
  | [], _, t, v, h => by simp [getE] at h
  | (s, u) :: r, hc, t, v, h => by
    simp only [getE] at h
    cases hb : Nat.beq s t with
    | true => rw [hb] at h; simp only [cond_true, Option.some.injEq] at h; rw [← h, ← Nat.eq_of_beq_eq_true hb]; exact hc.1
    | false => rw [hb] at h; exact coverE_spec hc.2 t v h
theorem less_env {st st' : St} (h1 : st'.heap = st.heap) (h2 : st'.next = st.next) (h3 : st'.nt = st.nt) (hc : coverE st.env st'.env) : Less P n0 st st' :=
  fun F base w0 ρ a w hH hE => ⟨ρ, by rw [h1, h2]; exact hH, ⟨by rw [h3]; exact hE.size, hE.defers, fun t v hv => by rw [h1]; exact hE.slot t v (coverE_spec hc t v hv)⟩, fun _ _ => rfl⟩
theorem Less.refl (st : St) : Less P n0 st st := fun F base w0 ρ a w hH hE => ⟨ρ, hH, hE, fun _ _ => rfl⟩
theorem Less.trans {s1 s2 s3 : St} (h : Less P n0 s1 s2) (k : Less P n0 s2 s3) : Less P n0 s1 s3 := fun F base w0 ρ a w hH hE => by
  obtain ⟨ρ', h1, h2, h3⟩ := h F base w0 ρ a w hH hE
  obtain ⟨ρ'', k1, k2, k3⟩ := k F base w0 ρ' a w h1 h2
  exact ⟨ρ'', k1, k2, fun id hid => (k3 id hid).trans (h3 id hid)⟩
/-- fewer slots, and fewer things in memory -/
def coverH (heap : List (Nat × Option Blk)) : List (Nat × Option Blk) → Prop
  | [] => True
  | (t, none) :: r => coverH heap r
  | (t, some v) :: r => getH heap t = some v ∧ coverH heap r
theorem coverH_spec {heap : List (Nat × Option Blk)} : ∀ {e : List (Nat × Option Blk)}, coverH heap e → ∀ t v, getH e t = some v → getH heap t = some v
  | [], _, t, v, h => by simp [getH] at h
  | (s, none) :: r, hc, t, v, h => by
    rw [getH_new] at h
    split at h
    · cases h
    · exact coverH_spec (e := r) hc t v h
  | (s, some u) :: r, hc, t, v, h => by
    rw [getH_new] at h
    split at h
    · rename_i e; subst e; injection h with h; subst h; exact hc.1
    · exact coverH_spec (e := r) hc.2 t v h
theorem less_heap {st st' : St} (h2 : st'.next = st.next) (h3 : st'.nt = st.nt) (hc : coverE st.env st'.env) (hh : coverH st.heap st'.heap) : Less P n0 st st' :=
  fun F base w0 ρ a w hH hE => by
    have hs : ∀ b, Stab F ρ st.heap b → Stab F ρ st'.heap b := fun b h => ⟨h.1, fun id B u hB ho hu => h.2 id B u (coverH_spec hh id B hB) ho hu⟩
    refine ⟨ρ, ⟨⟨hH.below, hH.hbase, by rw [h2]; exact hH.sup, fun id id' B B' u u' b hB hB' => hH.inj id id' B B' u u' b (coverH_spec hh _ _ hB) (coverH_spec hh _ _ hB'), fun id B hB => ?_⟩, hH.hF⟩, ⟨by rw [h3]; exact hE.size, hE.defers, fun t v hv => ?_⟩, fun _ _ => rfl⟩
    · exact (hH.blk id B (coverH_spec hh id B hB)).mono (Same.refl _ _) (fun b h _ => hs b h) (fun _ _ h => h) (fun _ _ _ _ _ _ => rfl)
    · exact (hE.slot t v (coverE_spec hc t v hv)).mono (Same.refl _ _) (fun b h _ => hs b h) (fun _ _ h => h)
/-- the numbers from n on are forgotten -/
def belowV (n : Nat) : V → Bool
  | .own id => Nat.blt id n
  | .ptr id _ _ _ => Nat.blt id n
  | .agg cs => belowL n cs
  | .tup cs => belowL n cs
  | .clo _ cs => belowL n cs
  | _ => true
where belowL (n : Nat) : List V → Bool
  | [] => true
  | c :: cs => belowV n c && belowL n cs

theorem belowL_spec {n : Nat} : ∀ {cs : List V}, belowV.belowL n cs = true → ∀ j, j < cs.length → belowV n (cAt cs j) = true
  | [], _, j, h => by simp at h
  | c :: cs, h, 0, _ => by simp only [belowV.belowL, Bool.and_eq_true] at h; exact h.1
  | c :: cs, h, j + 1, hj => by
    simp only [belowV.belowL, Bool.and_eq_true] at h
    have := belowL_spec h.2 j (by simpa using hj)
    simpa [cAt] using this
def cutρ (ρ : Nat → Option Value) (n : Nat) : Nat → Option Value := fun id => bif Nat.blt id n then ρ id else none
theorem cutρ_some {ρ : Nat → Option Value} {n id : Nat} {u : Value} (h : cutρ ρ n id = some u) : ρ id = some u ∧ id < n := by
  unfold cutρ at h
  cases hb : Nat.blt id n with
  | false => rw [hb] at h; cases h
  | true => rw [hb] at h; exact ⟨h, Nat.le_of_ble_eq_true hb⟩
theorem cutρ_lt {ρ : Nat → Option Value} {n id : Nat} (h : Nat.blt id n = true) : cutρ ρ n id = ρ id := by unfold cutρ; rw [h]; rfl
theorem VRel.cut {ρ : Nat → Option Value} {S : Nat → Prop} {w : World} {v : V} {u : Value} {n : Nat} (h : VRel ρ S w v u) : belowV n v = true → VRel (cutρ ρ n) S w v u := by
  induction h with
  | pure h => exact fun _ => .pure h
  | own h => exact fun hb => .own (by rw [cutρ_lt hb]; exact h)
  | ptr h hb => exact fun hn => .ptr (by rw [cutρ_lt hn]; exact h) hb
  | rp us hS hc hr => exact fun _ => .rp us hS hc hr
  | agg hn h ih => exact fun hb => .agg hn (fun j hj => ih j hj (belowL_spec hb j hj))
  | tup hn h ih => exact fun hb => .tup hn (fun j hj => ih j hj (belowL_spec hb j hj))
  | clo hn h ih => exact fun hb => .clo hn (fun j hj => ih j hj (belowL_spec hb j hj))
  | any u => exact fun _ => .any u
  | und => exact fun _ => .und
def belowE (n : Nat) : List (Nat × V) → Bool
  | [] => true
  | (_, v) :: r => belowV n v && belowE n r
theorem belowE_spec {n : Nat} : ∀ {e : List (Nat × V)}, belowE n e = true → ∀ t v, getE e t = some v → belowV n v = true
  | [], _, t, v, h => by simp [getE] at h
  | (s, u) :: r, hc, t, v, h => by
    simp only [belowE, Bool.and_eq_true] at hc
    simp only [getE] at h
    cases hb : Nat.beq s t with
    | true => rw [hb] at h; simp only [cond_true, Option.some.injEq] at h; rw [← h]; exact hc.1
    | false => rw [hb] at h; exact belowE_spec hc.2 t v h
def belowB (n : Nat) : Option Blk → Bool
  | some (.box _ cs) => belowV.belowL n cs
  | _ => true
def belowH (n : Nat) : List (Nat × Option Blk) → Bool
  | [] => true
  | (id, B) :: r => Nat.blt id n && belowB n B && belowH n r
theorem belowH_spec {n : Nat} : ∀ {e : List (Nat × Option Blk)}, belowH n e = true → ∀ id B, getH e id = some B → Nat.blt id n = true ∧ belowB n (some B) = true
  | [], _, t, v, h => by simp [getH] at h
  | (s, u) :: r, hc, t, v, h => by
    simp only [belowH, Bool.and_eq_true] at hc
    rw [getH_new] at h
    split at h
    · rename_i e; subst e; subst h; exact hc.1
    · exact belowH_spec hc.2 t v h
/-- the numbers from n on are forgotten -/
theorem less_cut {st : St} (n : Nat) (hn : Nat.ble n0 n = true) (hle : Nat.ble n st.next = true) (hE' : belowE n st.env = true) (hH' : belowH n st.heap = true) : Less P n0 st { st with next := n } :=
  fun F base w0 ρ a w hH hE => by
    have hS : ∀ b, Stab F ρ st.heap b → Stab F (cutρ ρ n) st.heap b := fun b h => ⟨h.1, fun id B u hB ho hu => h.2 id B u hB ho (cutρ_some hu).1⟩
    refine ⟨cutρ ρ n, ⟨⟨hH.below, hH.hbase, fun id u hu => ⟨(cutρ_some hu).2, (hH.sup id u (cutρ_some hu).1).2⟩, fun id id' B B' u u' b hB hB' ho ho' hu hu' => hH.inj id id' B B' u u' b hB hB' ho ho' (cutρ_some hu).1 (cutρ_some hu').1, fun id B hB => ?_⟩, hH.hF⟩,
      ⟨hE.size, hE.defers, fun t v hv => ?_⟩, fun id hid => cutρ_lt (by have := Nat.le_of_ble_eq_true hn; simp; omega)⟩
    · have h1 := hH.blk id B hB
      obtain ⟨g1, g2⟩ := belowH_spec hH' id B hB
      cases B with
      | box t cs =>
        obtain ⟨b, us, q1, q2, q3, q4, q5⟩ := h1
        exact ⟨b, us, by rw [cutρ_lt g1]; exact q1, q2, q3, q4, fun j hj => ⟨((q5 j hj).1.cut (belowL_spec g2 j hj)).mono (Same.refl _ _) (fun b h _ => hS b h) (fun _ _ h => h), (q5 j hj).2⟩⟩
      | row e s l =>
        obtain ⟨h0, v, xs, q1, q2, q3, q4⟩ := h1
        exact ⟨h0, v, xs, by rw [cutρ_lt g1]; exact q1, q2, q3, fun i j hi hj => by
          obtain ⟨u, hu, hp, ho⟩ := q4 i j hi hj
          exact ⟨u, hu, hp.mono (Same.refl _ _) (fun b h _ => hS b h), ho⟩⟩
      | fro l =>
        obtain ⟨v, q1, q2, q3⟩ := h1
        exact ⟨v, by rw [cutρ_lt g1]; exact q1, q2.mono (Same.refl _ _) (fun b h _ => hS b h), q3⟩
      | map q es =>
        obtain ⟨b, mes, clock, q1, q2⟩ := h1
        exact ⟨b, mes, clock, by rw [cutρ_lt g1]; exact q1, q2⟩
      | obj o =>
        obtain ⟨b, q1, q2⟩ := h1
        exact ⟨b, by rw [cutρ_lt g1]; exact q1, q2⟩
    · exact ((hE.slot t v hv).cut (belowE_spec hE' t v hv)).mono (Same.refl _ _) (fun b h _ => hS b h) (fun _ _ h => h)

/-! ### Functions -/
def fnOk (P : Program) (f : FuncId) : Bool :=
  match P.funcs[f]? with
  | some fn => fn.body.isSome && !(fn.name == "runtime.NumGoroutine")
  | none => false
/-- what a function answers: at arguments that read so, a value that reads so; nothing that was there turns -/
def Fn (P : Program) (f : FuncId) (args : List V) (r : V) : Prop :=
  fnOk P f = true ∧ ∀ (w : World) (S : Nat → Prop) (vals : Array Value), vals.size = args.length → (∀ b, w.heap.size ≤ b → S b) → (∀ j, j < args.length → VRel (fun _ => none) S w (cAt args j) (vals.getD j undef)) →
    Calls P f vals w fun e w' => ∃ v, e = .returned v ∧ Below w.heap.size w w' ∧ VRel (fun _ => none) S w' r v

theorem run_call {o : Oper} {f : FuncId} {xs : Array Operand} {ts : Array TypeId} (ho : o.op = .call { callee := .value (.func f), args := xs, argTypes := ts }) (hf : fnOk P f = true) (a : Act) (w : World) :
    (execOp a.eval o).run P w = .ok (.enter f (xs.map a.eval)) w := by
  unfold fnOk at hf
  cases hfn : P.funcs[f]? with
  | none => rw [hfn] at hf; cases hf
  | some fn =>
    rw [hfn] at hf
    simp only [Bool.and_eq_true, Bool.not_eq_true'] at hf
    obtain ⟨h1, h2⟩ := hf
    obtain ⟨c, hc⟩ := Option.isSome_iff_exists.1 h1
    unfold execOp; rw [ho]
    have hname : fn.name ≠ "runtime.NumGoroutine" := fun e => by rw [e] at h2; simp at h2
    simp [resolve, Act.eval, Deferred.ofValue, invoke, callFunc, Sem.run_bind, Sem.run_pure, program, Sem.run, hfn, hc, hname]
end
end Go.Proofs.Ytnbbnedpjfanoaa
