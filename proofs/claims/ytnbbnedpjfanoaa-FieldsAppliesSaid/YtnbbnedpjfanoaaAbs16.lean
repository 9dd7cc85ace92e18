/-
  A VALUE CALCULUS OVER THE MODEL, part 16: what a region that draws its order may write, found from its text; appends with the outcome written as one likes. Plain lemmas, over any program.
-/
import Derived.Test.YtnbbnedpjfanoaaAbs15
set_option linter.unusedVariables false
set_option linter.unusedSimpArgs false
set_option linter.unusedVariables false
namespace Go.Proofs.Ytnbbnedpjfanoaa
open Go.RowKit
section
variable {P : Program} {o : Oper} {n0 : Nat}

/-! ### What a region may write -/
def wEnv (P : Program) (heap : List (Nat × Option Blk)) : List Oper → List (Nat × V) → List (Nat × V)
  | [], env => env
  | o :: os, env => match o.dst with
    | none => wEnv P heap os env
    | some d => match o.op with
      | .indexAddr _ (.tmp t) _ => match getE env t with
        | some (.own id) => wEnv P heap os ((d, .ptr id 0 0 0) :: env)
        | _ => wEnv P heap os env
      | .move (.tmp t) => match getE env t with
        | some v => wEnv P heap os ((d, v) :: env)
        | none => wEnv P heap os env
      | .assign (.tmp t) => match getE env t with
        | some v => wEnv P heap os ((d, v) :: env)
        | none => wEnv P heap os env
      | .fieldAddr T x f => match stepV P [] ⟨env, heap, 0, 0⟩ (.fieldAddr T x f) with
        | some v => wEnv P heap os ((d, v) :: env)
        | none => wEnv P heap os env
      | .nilCheck (.tmp t) => match getE env t with
        | some v => wEnv P heap os ((d, v) :: env)
        | none => wEnv P heap os env
      | .load T x => match stepV P [] ⟨env, heap, 0, 0⟩ (.load T x) with
        | some v => wEnv P heap os ((d, v) :: env)
        | none => wEnv P heap os env
      | _ => wEnv P heap os env
/-- what a call is handed -/
def ownsIn (heap : List (Nat × Option Blk)) (id : Nat) : List Nat := match getH heap id with
  | some (.box _ cs) => cs.filterMap (fun c => match c with
    | .own i => some i
    | .ptr i _ _ _ => some i
    | _ => none)
  | _ => []
def callIds (env : List (Nat × V)) (heap : List (Nat × Option Blk)) : List Operand → List Nat
  | [] => []
  | .tmp t :: xs => (match getE env t with
    | some (.ptr id _ _ _) => id :: ownsIn heap id
    | _ => []) ++ callIds env heap xs
  | _ :: xs => callIds env heap xs
def wIds (env : List (Nat × V)) (heap : List (Nat × Option Blk)) : Nat → List Oper → List (Nat × Nat)
  | _, [] => []
  | j, o :: os => match o.op with
    | .store _ (.tmp t) _ => match getE env t with
      | some (.ptr id _ _ _) => (j, id) :: wIds env heap (j + 1) os
      | _ => wIds env heap (j + 1) os
    | .call { callee := .builtin .append, args := ⟨.tmp t :: _⟩, argTypes := _ } => match getE env t with
      | some (.own id) => (j, id) :: wIds env heap (j + 1) os
      | _ => wIds env heap (j + 1) os
    | .call { callee := .value (.func _), args := xs, argTypes := _ } => (callIds env heap xs.toList).map (fun i => (j, i)) ++ wIds env heap (j + 1) os
    | _ => wIds env heap (j + 1) os
inductive NormI : List (Nat × Nat) → List (Nat × Nat) → Prop
  | nil : NormI [] []
  | cons {a b : Nat} {l m : List (Nat × Nat)} (h : NormI l m) : NormI ((a, b) :: l) ((a, b) :: m)
def memW : List (Nat × Nat) → Nat → Nat → Bool
  | [], _, _ => false
  | (a, b) :: l, j, x => (Nat.beq a j && Nat.beq b x) || memW l j x
def memI : List Nat → Nat → Bool
  | [], _ => false
  | a :: l, x => Nat.beq a x || memI l x
def isWat (l : List Oper) (j : Nat) : Bool := match l[j]? with
  | some o => isW o.op
  | none => false
/-- with what it may write found from its text -/
theorem r_drawA {id : Nat} {st : St} {Q : Exit → St → Prop} {l : List Oper} {ws : List (Nat × Nat)} (h : PL P st.nt st.next l (fun j id => (Nat.ble st.next id && isWat l j) || memW ws j id) st.next l st.env st.heap (Q .normal)) (hw : NormI (wIds (wEnv P st.heap l st.env) st.heap 0 l) ws := by repeat' (first | exact NormI.nil | apply NormI.cons))
    (hm : P.follows .mixedOrders = true := by kernel_rfl) (hok : okText l = true := by kernel_rfl) (hn0 : Nat.ble n0 st.next = true := by kernel_rfl) :
    Run P n0 (.region id l.toArray true) st Q := r_draw _ h hm hok hn0
end

/-! ### Appends -/
theorem len_enc {α : Type} {enc : α → List V} {s : Nat} {l : List α} (h : ∀ x, (enc x).length = s) : ∀ i, i < (l.map enc).length → (eAt (l.map enc) i).length = s := fun i hi => by
  rw [List.length_map] at hi
  unfold eAt
  rw [List.getD_eq_getElem?_getD, List.getElem?_map, List.getElem?_eq_getElem hi]
  exact h _
theorem len_one {s : Nat} {c : List V} (h : c.length = s) : ∀ i, i < [c].length → (eAt [c] i).length = s := fun i hi => by
  have : i = 0 := by simpa using hi
  subst this; exact h
theorem len_two {s : Nat} {c d : List V} (h : c.length = s) (h2 : d.length = s) : ∀ i, i < [c, d].length → (eAt [c, d] i).length = s := fun i hi => by
  rcases i with _ | _ | i
  · exact h
  · exact h2
  · simp at hi; omega
theorem len_none {s : Nat} : ∀ i, i < ([] : List (List V)).length → (eAt [] i).length = s := fun i hi => by simp at hi
section
variable {P : Program} {o : Oper} {n0 : Nat} {ops : List Oper} {rest : List Oper} {env : List (Nat × V)} {heap : List (Nat × Option Blk)} {next nt : Nat} {Q : St → Prop}
theorem s_app0R {x y : Operand} {t e s by_ d : Nat} {m r : List (List V)} {v : V} (hr : m = r) (hm : ∀ i, i < m.length → (eAt m i).length = s) (hby : m.length * by_ ≤ 140737488355328) (h63 : m.length ≤ 9223372036854775807)
    (ho : o.op = .call { callee := .builtin .append, args := #[x, y], argTypes := #[t, t] } := by rfl) (hx : opE env x = some (.lit (.slice none 0 0)) := by rfl) (hy : opE env y = some v := by rfl) (hv : srcV heap v = some m := by rfl)
    (ht : P.underlying t = some (.slice e) := by rfl) (hs : sizeT P e = some s := by rfl) (hb : bytesT P e = some by_ := by rfl) (hz : ∃ z, zeroT P e = some z ∧ z.length = s := by exact ⟨_, rfl, rfl⟩) (h0 : Nat.blt 0 s = true := by rfl) (hg : guardV env ops o.guard = some true := by rfl) (hd : o.dst = some d := by rfl) (hdn : Nat.blt d nt = true := by rfl) (hn0 : Nat.ble n0 next = true := by rfl)
    (h : RunL P n0 ops.toArray rest ⟨(d, .own next) :: env, (next, some (.row e s r)) :: heap, next + 1, nt⟩ Q) : RunL P n0 ops.toArray (o :: rest) ⟨env, heap, next, nt⟩ Q := by
  subst hr; exact s_app0 hm hby h63 ho hx hy hv ht hs hb hz h0 hg hd hdn hn0 h
theorem s_app0roR {x y : Operand} {t e s by_ d : Nat} {m r : List (List V)} {v : V} (hr : m = r) (hm : ∀ i, i < m.length → (eAt m i).length = s) (hby : m.length * by_ ≤ 140737488355328) (h63 : m.length ≤ 9223372036854775807)
    (ho : o.op = .call { callee := .builtin .append, args := #[x, y], argTypes := #[t, t] } := by rfl) (hx : opE env x = some (.lit (.slice none 0 0)) := by rfl) (hy : opE env y = some v := by rfl) (hv : srcV heap v = some m := by rfl)
    (ht : P.underlying t = some (.slice e) := by rfl) (hs : sizeT P e = some s := by rfl) (hb : bytesT P e = some by_ := by rfl) (hz : ∃ z, zeroT P e = some z ∧ z.length = s := by exact ⟨_, rfl, rfl⟩) (h0 : Nat.blt 0 s = true := by rfl) (hg : guardV env ops o.guard = some true := by rfl) (hd : o.dst = some d := by rfl) (hdn : Nat.blt d nt = true := by rfl) (hn0 : Nat.ble n0 next = true := by rfl)
    (h : RunL P n0 ops.toArray rest ⟨(d, .ro r) :: env, heap, next + 1, nt⟩ Q) : RunL P n0 ops.toArray (o :: rest) ⟨env, heap, next, nt⟩ Q := by
  subst hr; exact s_app0ro hm hby h63 ho hx hy hv ht hs hb hz h0 hg hd hdn hn0 h
theorem s_lit0 {t e s d : Nat} (ho : o.op = .buildSlice t 0 #[] := by rfl) (ht : P.underlying t = some (.slice e) := by rfl) (hs : sizeT P e = some s := by rfl) (h0 : Nat.blt 0 s = true := by rfl) (hg : guardV env ops o.guard = some true := by rfl) (hd : o.dst = some d := by rfl) (hdn : Nat.blt d nt = true := by rfl) (hn0 : Nat.ble n0 next = true := by rfl)
    (h : RunL P n0 ops.toArray rest ⟨(d, .own next) :: env, (next, some (.row e s [])) :: heap, next + 1, nt⟩ Q) : RunL P n0 ops.toArray (o :: rest) ⟨env, heap, next, nt⟩ Q :=
  l_g hg (gstep_of_at (Nat.le_of_ble_eq_true hn0) (a_lit0 (st := { env := env, heap := heap, next := next + 1, nt := nt }) ho hd hdn ht hs h0)) h
end
section
variable {P : Program} {o : Oper} {nt b0 k k' : Nat} {ops : List Oper} {W : Nat → Nat → Bool} {rest : List Oper} {env : List (Nat × V)} {heap : List (Nat × Option Blk)} {Q : St → Prop}
theorem p_app0R {x y : Operand} {t e s by_ d : Nat} {m r : List (List V)} {v : V} (hr : m = r) (hm : ∀ i, i < m.length → (eAt m i).length = s) (hby : m.length * by_ ≤ 140737488355328) (h63 : m.length ≤ 9223372036854775807)
    (ho : o.op = .call { callee := .builtin .append, args := #[x, y], argTypes := #[t, t] } := by rfl) (hx : opE (lk (looks ops o) env) x = some (.lit (.slice none 0 0)) := by rfl) (hy : opE (lk (looks ops o) env) y = some v := by rfl) (hv : srcV [] v = some m := by rfl)
    (ht : P.underlying t = some (.slice e) := by rfl) (hs : sizeT P e = some s := by rfl) (hb : bytesT P e = some by_ := by rfl) (hz : ∃ z, zeroT P e = some z ∧ z.length = s := by exact ⟨_, rfl, rfl⟩) (h0 : Nat.blt 0 s = true := by rfl) (hg : guardV (lk (looks ops o) env) ops o.guard = some true := by rfl) (hd : o.dst = some d := by rfl) (hdn : Nat.blt d nt = true := by rfl) (hk : k + 1 = k' := by (simp only [Nat.reduceAdd]; rfl)) (hb' : Nat.ble b0 k = true := by rfl)
    (h : PL P nt b0 ops W k' rest ((d, .own k) :: env) ((k, some (.row e s r)) :: heap) Q) : PL P nt b0 ops W k (o :: rest) env heap Q := by
  subst hr; exact p_app0 hm hby h63 ho hx hy hv ht hs hb hz h0 hg hd hdn hk hb' h
theorem p_app0roR {x y : Operand} {t e s by_ d : Nat} {m r : List (List V)} {v : V} (hr : m = r) (hm : ∀ i, i < m.length → (eAt m i).length = s) (hby : m.length * by_ ≤ 140737488355328) (h63 : m.length ≤ 9223372036854775807)
    (ho : o.op = .call { callee := .builtin .append, args := #[x, y], argTypes := #[t, t] } := by rfl) (hx : opE (lk (looks ops o) env) x = some (.lit (.slice none 0 0)) := by rfl) (hy : opE (lk (looks ops o) env) y = some v := by rfl) (hv : srcV [] v = some m := by rfl)
    (ht : P.underlying t = some (.slice e) := by rfl) (hs : sizeT P e = some s := by rfl) (hb : bytesT P e = some by_ := by rfl) (hz : ∃ z, zeroT P e = some z ∧ z.length = s := by exact ⟨_, rfl, rfl⟩) (h0 : Nat.blt 0 s = true := by rfl) (hg : guardV (lk (looks ops o) env) ops o.guard = some true := by rfl) (hd : o.dst = some d := by rfl) (hdn : Nat.blt d nt = true := by rfl) (hk : k + 1 = k' := by (simp only [Nat.reduceAdd]; rfl)) (hb' : Nat.ble b0 k = true := by rfl)
    (h : PL P nt b0 ops W k' rest ((d, .ro r) :: env) heap Q) : PL P nt b0 ops W k (o :: rest) env heap Q := by
  subst hr; exact p_app0ro hm hby h63 ho hx hy hv ht hs hb hz h0 hg hd hdn hk hb' h
end
end Go.Proofs.Ytnbbnedpjfanoaa
