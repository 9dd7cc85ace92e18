/-
  A VALUE CALCULUS OVER THE MODEL, part 20: the steps for calls that hand memory over and back; lengths of strings; array values. Plain lemmas, over any program.
-/
import Derived.Test.YtnbbnedpjfanoaaAbs19
set_option linter.unusedVariables false
set_option linter.unusedSimpArgs false
set_option linter.unusedVariables false
namespace Go.Proofs.Ytnbbnedpjfanoaa
open Go.RowKit
theorem mM0 {a D : Nat} {l : List Nat} : mM (a :: l) D 0 = a := rfl
theorem mM1 {a b D : Nat} {l : List Nat} : mM (a :: b :: l) D 1 = b := rfl
theorem mM2 {a b c D : Nat} {l : List Nat} : mM (a :: b :: c :: l) D 2 = c := rfl
theorem mM3 {a b c d D : Nat} {l : List Nat} : mM (a :: b :: c :: d :: l) D 3 = d := rfl
theorem mM4 {a b c d e D : Nat} {l : List Nat} : mM (a :: b :: c :: d :: e :: l) D 4 = e := rfl
theorem mM5 {a b c d e f D : Nat} {l : List Nat} : mM (a :: b :: c :: d :: e :: f :: l) D 5 = f := rfl
theorem mM6 {a b c d e f g D : Nat} {l : List Nat} : mM (a :: b :: c :: d :: e :: f :: g :: l) D 6 = g := rfl
theorem mM7 {a b c d e f g h D : Nat} {l : List Nat} : mM (a :: b :: c :: d :: e :: f :: g :: h :: l) D 7 = h := rfl
section
variable {P : Program} {o : Oper} {n0 : Nat} {ops : List Oper} {rest : List Oper} {env : List (Nat × V)} {heap : List (Nat × Option Blk)} {next nt : Nat} {Q : St → Prop}
/-- a call to which memory is handed (M: the caller's numbers of what it gets), and which hands memory back -/
theorem s_callM {f : FuncId} {xs : Array Operand} {ts : Array TypeId} {vs vs' : List V} {r r' : V} {h0 h1 heap' : List (Nat × Option Blk)} {k1 d next' : Nat} {L : List Nat} (M : List Nat) (hf : FnM P f vs' h0 M.length r h1 k1) (ho : o.op = .call { callee := .value (.func f), args := xs, argTypes := ts } := by rfl)
    (hg : guardV env ops o.guard = some true := by rfl) (hd : o.dst = some d := by rfl) (hdn : Nat.blt d nt = true := by rfl) (hx : argsE env xs.toList = some vs := by rfl)
    (hL : M ++ rangeN next (k1 - M.length) = L := by (simp only [rangeN, List.length_cons, List.length_nil, Nat.reduceSub, Nat.reduceAdd, List.cons_append, List.nil_append, List.append_nil]; rfl))
    (hn : next + (k1 - M.length) = next' := by (simp only [List.length_cons, List.length_nil, Nat.reduceSub, Nat.reduceAdd, Nat.add_zero]; rfl))
    (hw : WkL vs (fv.fvL (mM L next') vs') := by ((repeat' (first | exact WkL.nil | refine WkL.cons ?_ ?_ | exact Wk.refl _ | exact Wk.nil | refine Wk.agg ?_ | refine Wk.tup ?_)); first | done | fail "args"))
    (hM : nodupB L = true := by rfl) (hh : coverC (mM L next') M.length heap h0 := by ((repeat' (first | exact True.intro | exact rfl | refine And.intro ?_ ?_)); first | done | fail "mem")) (hk : k1 = M.length + (rangeN next (k1 - M.length)).length := by rfl) (hk1 : h1.all (fun p => Nat.blt p.1 k1) = true := by rfl) (hn0 : Nat.ble n0 next = true := by rfl)
    (hr : fv (mM L next') r = r' := by first | (simp only [fv, fv.fvL, mM0, mM1, mM2, mM3, mM4, mM5, mM6, mM7]; rfl) | rfl)
    (hH : fH (mM L next') h1 ++ (deadM M ++ heap) = heap' := by (simp only [fH, fB, fv, fv.fvL, deadM, Option.map_some, Option.map_none, List.cons_append, List.nil_append, mM0, mM1, mM2, mM3, mM4, mM5, mM6, mM7]; rfl))
    (h : RunL P n0 ops.toArray rest ⟨(d, r') :: env, heap', next', nt⟩ Q) : RunL P n0 ops.toArray (o :: rest) ⟨env, heap, next, nt⟩ Q := by
  subst hL hn hr hH
  have hs := g_callM (n0 := n0) (st := ⟨env, heap, next, nt⟩) M (k1 - M.length) hf ho (by rw [hd]; exact hdn) hx hw hM hh hk hk1 (Nat.le_of_ble_eq_true hn0)
  rw [hd] at hs
  exact l_g hg hs h
/-- the call of a closure (M: the caller's numbers of what it gets), and which hands memory back -/
theorem s_callV {t : Tmp} {cs : List V} {f : FuncId} {xs : Array Operand} {ts : Array TypeId} {vs vs' : List V} {r r' : V} {h0 h1 heap' : List (Nat × Option Blk)} {k1 d next' : Nat} {L : List Nat} (M : List Nat) (hf : FnM P f vs' h0 M.length r h1 k1) (ho : o.op = .call { callee := .value (.tmp t), args := xs, argTypes := ts } := by rfl)
    (ht : getE env t = some (.clo f cs) := by rfl) (hg : guardV env ops o.guard = some true := by rfl) (hd : o.dst = some d := by rfl) (hdn : Nat.blt d nt = true := by rfl) (hx : argsE env xs.toList = some vs := by rfl)
    (hL : M ++ rangeN next (k1 - M.length) = L := by (simp only [rangeN, List.length_cons, List.length_nil, Nat.reduceSub, Nat.reduceAdd, List.cons_append, List.nil_append, List.append_nil]; rfl))
    (hn : next + (k1 - M.length) = next' := by (simp only [List.length_cons, List.length_nil, Nat.reduceSub, Nat.reduceAdd, Nat.add_zero]; rfl))
    (hw : WkL (vs ++ cs) (fv.fvL (mM L next') vs') := by ((repeat' (first | exact WkL.nil | refine WkL.cons ?_ ?_ | exact Wk.refl _ | exact Wk.nil | refine Wk.agg ?_ | refine Wk.tup ?_)); first | done | fail "args"))
    (hM : nodupB L = true := by rfl) (hh : coverC (mM L next') M.length heap h0 := by ((repeat' (first | exact True.intro | exact rfl | refine And.intro ?_ ?_)); first | done | fail "mem")) (hk : k1 = M.length + (rangeN next (k1 - M.length)).length := by rfl) (hk1 : h1.all (fun p => Nat.blt p.1 k1) = true := by rfl) (hn0 : Nat.ble n0 next = true := by rfl)
    (hr : fv (mM L next') r = r' := by first | (simp only [fv, fv.fvL, mM0, mM1, mM2, mM3, mM4, mM5, mM6, mM7]; rfl) | rfl)
    (hH : fH (mM L next') h1 ++ (deadM M ++ heap) = heap' := by (simp only [fH, fB, fv, fv.fvL, deadM, Option.map_some, Option.map_none, List.cons_append, List.nil_append, mM0, mM1, mM2, mM3, mM4, mM5, mM6, mM7]; rfl))
    (h : RunL P n0 ops.toArray rest ⟨(d, r') :: env, heap', next', nt⟩ Q) : RunL P n0 ops.toArray (o :: rest) ⟨env, heap, next, nt⟩ Q := by
  subst hL hn hr hH
  have hs := g_callV (n0 := n0) (st := ⟨env, heap, next, nt⟩) M (k1 - M.length) hf ho ht (by rw [hd]; exact hdn) hx hw hM hh hk hk1 (Nat.le_of_ble_eq_true hn0)
  rw [hd] at hs
  exact l_g hg hs h
/-- a closure -/
theorem s_func {f : FuncId} {xs : Array Operand} {vs : List V} {d : Nat} (ho : o.op = .makeFunc (.func f) #[] xs := by rfl) (hx : argsE env xs.toList = some vs := by rfl) (hg : guardV env ops o.guard = some true := by rfl) (hd : o.dst = some d := by rfl) (hdn : Nat.blt d nt = true := by rfl) (h : RunL P n0 ops.toArray rest ⟨(d, .clo f vs) :: env, heap, next, nt⟩ Q) : RunL P n0 ops.toArray (o :: rest) ⟨env, heap, next, nt⟩ Q :=
  x_q hg hd hdn (q_makeFunc ho hx) h
/-- the same, when nothing is answered -/
theorem s_callM0 {f : FuncId} {xs : Array Operand} {ts : Array TypeId} {vs vs' : List V} {r : V} {h0 h1 heap' : List (Nat × Option Blk)} {k1 next' : Nat} {L : List Nat} (M : List Nat) (hf : FnM P f vs' h0 M.length r h1 k1) (ho : o.op = .call { callee := .value (.func f), args := xs, argTypes := ts } := by rfl)
    (hg : guardV env ops o.guard = some true := by rfl) (hd : o.dst = none := by rfl) (hx : argsE env xs.toList = some vs := by rfl)
    (hL : M ++ rangeN next (k1 - M.length) = L := by (simp only [rangeN, List.length_cons, List.length_nil, Nat.reduceSub, Nat.reduceAdd, List.cons_append, List.nil_append, List.append_nil]; rfl))
    (hn : next + (k1 - M.length) = next' := by (simp only [List.length_cons, List.length_nil, Nat.reduceSub, Nat.reduceAdd, Nat.add_zero]; rfl))
    (hw : WkL vs (fv.fvL (mM L next') vs') := by ((repeat' (first | exact WkL.nil | refine WkL.cons ?_ ?_ | exact Wk.refl _ | exact Wk.nil | refine Wk.agg ?_ | refine Wk.tup ?_)); first | done | fail "args"))
    (hM : nodupB L = true := by rfl) (hh : coverC (mM L next') M.length heap h0 := by ((repeat' (first | exact True.intro | exact rfl | refine And.intro ?_ ?_)); first | done | fail "mem")) (hk : k1 = M.length + (rangeN next (k1 - M.length)).length := by rfl) (hk1 : h1.all (fun p => Nat.blt p.1 k1) = true := by rfl) (hn0 : Nat.ble n0 next = true := by rfl)
    (hH : fH (mM L next') h1 ++ (deadM M ++ heap) = heap' := by (simp only [fH, fB, fv, fv.fvL, deadM, Option.map_some, Option.map_none, List.cons_append, List.nil_append, mM0, mM1, mM2, mM3, mM4, mM5, mM6, mM7]; rfl))
    (h : RunL P n0 ops.toArray rest ⟨env, heap', next', nt⟩ Q) : RunL P n0 ops.toArray (o :: rest) ⟨env, heap, next, nt⟩ Q := by
  subst hL hn hH
  have hs := g_callM (n0 := n0) (st := ⟨env, heap, next, nt⟩) M (k1 - M.length) hf ho (by rw [hd]; rfl) hx hw hM hh hk hk1 (Nat.le_of_ble_eq_true hn0)
  rw [hd] at hs
  exact l_g hg hs h
/-- the length of a string -/
theorem s_lens {x : Operand} {t : TypeId} {l : List UInt8} {d : Nat} (ho : o.op = .call { callee := .builtin .len, args := #[x], argTypes := #[t] } := by rfl) (hx : opE env x = some (.lit (.string (strB l))) := by rfl)
    (ht : P.underlying t = some .string := by rfl) (hg : guardV env ops o.guard = some true := by rfl) (hd : o.dst = some d := by rfl) (hdn : Nat.blt d nt = true := by rfl) (h : RunL P n0 ops.toArray rest ⟨(d, .lit (.int .i64 l.length)) :: env, heap, next, nt⟩ Q) : RunL P n0 ops.toArray (o :: rest) ⟨env, heap, next, nt⟩ Q := by
  refine x_q hg hd hdn ?_ h
  have := q_len_str (P := P) (G := []) (st := ⟨env, heap, next, nt⟩) ho hx ht
  rw [strB_size] at this
  exact this
end
section
variable {P : Program} {o : Oper} {nt b0 k k' : Nat} {ops : List Oper} {W : Nat → Nat → Bool} {rest : List Oper} {env : List (Nat × V)} {heap : List (Nat × Option Blk)} {Q : St → Prop}
theorem p_lens {x : Operand} {t : TypeId} {l : List UInt8} {d : Nat} (ho : o.op = .call { callee := .builtin .len, args := #[x], argTypes := #[t] } := by rfl) (hx : opE (lk (looks ops o) env) x = some (.lit (.string (strB l))) := by rfl)
    (ht : P.underlying t = some .string := by rfl) (hg : guardV (lk (looks ops o) env) ops o.guard = some true := by rfl) (hd : o.dst = some d := by rfl) (hdn : Nat.blt d nt = true := by rfl) (hk : k + 1 = k' := by (simp only [Nat.reduceAdd]; rfl)) (hb : Nat.ble b0 k = true := by rfl)
    (h : PL P nt b0 ops W k' rest ((d, .lit (.int .i64 l.length)) :: env) heap Q) : PL P nt b0 ops W k (o :: rest) env heap Q := by
  refine y_q hg hd hdn hb hk (fun N => ?_) h
  have := q_len_str (P := P) (G := []) (st := ⟨lk (looks ops o) env, [], N, nt⟩) ho hx ht
  rw [strB_size] at this
  exact this
/-- a call that hands one row back, where the order is drawn -/
theorem p_callN {f : FuncId} {xs : Array Operand} {ts : Array TypeId} {vs vs' : List V} {r r' : V} {e s d : Nat} {l : List (List V)} (hf : FnM P f vs' [] 0 r [(0, some (.row e s l))] 1) (ho : o.op = .call { callee := .value (.func f), args := xs, argTypes := ts } := by rfl)
    (hg : guardV (lk (looks ops o) env) ops o.guard = some true := by rfl) (hd : o.dst = some d := by rfl) (hdn : Nat.blt d nt = true := by rfl) (hx : argsE (lk (looks ops o) env) xs.toList = some vs := by rfl)
    (hw : ∀ N, WkL vs (fv.fvL (mM [k] N) vs') := by (intro N; (repeat' (first | exact WkL.nil | refine WkL.cons ?_ ?_ | exact Wk.refl _ | exact Wk.nil | refine Wk.agg ?_ | refine Wk.tup ?_)); first | done | fail "args"))
    (hr : ∀ N, fv (mM [k] N) r = r' := by (intro N; simp only [fv, fv.fvL, mM0]; rfl)) (hk : k + 1 = k' := by (simp only [Nat.reduceAdd]; rfl)) (hb' : Nat.ble b0 k = true := by rfl)
    (h : PL P nt b0 ops W k' rest ((d, r') :: env) ((k, some (.row e s l)) :: heap) Q) : PL P nt b0 ops W k (o :: rest) env heap Q :=
  p_at (Hn := []) (H := [(k, some (.row e s l))]) hg hd hk hb' (fun id B h => by cases h) (fun id h => .inl (inH_one h)) (fun N env' heap' hE hH => by
    have := a_callM (k := k) (st := ⟨env', heap', N, nt⟩) [] hf ho (by rw [hd]; exact hdn) (argsE_mono hE hx) (by rw [List.nil_append]; exact hw N) rfl True.intro rfl rfl
    rw [hd] at this
    rw [List.nil_append, hr N] at this
    exact this) h
end
theorem q_index_agg {P : Program} {G : List Nat} {o : Oper} {st : St} {T e N n : Nat} {x y : Operand} {cs : List V} {k : IntKind} {m : Int} (ho : o.op = .index T x y) (hx : opE st.env x = some (.agg cs)) (hy : opE st.env y = some (.lit (.int k m)))
    (hm : m = (n : Int)) (hT : P.underlying T = some (.array N e)) (hn : n < N) (hc : n < cs.length) (ha : aggT P e = some false) (hs : sizeT P e = some 1) : QStep P G o st (cAt cs n) :=
  q_of_run fun F base w0 ρ a w hH hE => by
    subst hm
    obtain ⟨us, e1, e2, e3⟩ := agg_inv (opE_sound hE hx)
    refine ⟨us.getD n undef, e3 n hc, fun w' => ?_⟩
    unfold execOp; rw [ho]; simp only []; rw [e1, lit_inv (opE_sound hE hy)]
    have hu : us[n]? = some (us.getD n undef) := by rw [Array.getD_eq_getD_getElem?, Array.getElem?_eq_getElem (by omega)]; rfl
    generalize us.getD n undef = u at hu
    simp [Instr.index, asIntOf, run_underlying hT, Sem.run_bind, Sem.run_pure, hn, run_sizeT hs, part, run_aggT ha, hu]
section
variable {P : Program} {o : Oper} {n0 : Nat} {ops : List Oper} {rest : List Oper} {env : List (Nat × V)} {heap : List (Nat × Option Blk)} {next nt : Nat} {Q : St → Prop}
/-- an element of an array that is a value -/
theorem s_ixa {T e N n d : Nat} {x y : Operand} {cs : List V} {k : IntKind} {m : Int} {v : V} (ho : o.op = .index T x y := by rfl) (hx : opE env x = some (.agg cs) := by rfl) (hy : opE env y = some (.lit (.int k m)) := by rfl)
    (hm : m = (n : Int) := by first | exact lit0 | exact lit1 | exact lit2 | exact lit3 | rfl) (hT : P.underlying T = some (.array N e) := by rfl) (hn : Nat.blt n N = true := by rfl) (hv : cs[n]? = some v := by rfl) (ha : aggT P e = some false := by rfl) (hs : sizeT P e = some 1 := by rfl)
    (hg : guardV env ops o.guard = some true := by rfl) (hd : o.dst = some d := by rfl) (hdn : Nat.blt d nt = true := by rfl) (h : RunL P n0 ops.toArray rest ⟨(d, v) :: env, heap, next, nt⟩ Q) : RunL P n0 ops.toArray (o :: rest) ⟨env, heap, next, nt⟩ Q := by
  refine x_q hg hd hdn ?_ h
  have := q_index_agg (P := P) (G := []) (st := ⟨env, heap, next, nt⟩) ho hx hy hm hT (Nat.le_of_ble_eq_true hn) (List.getElem?_eq_some_iff.1 hv).1 ha hs
  have e : cAt cs n = v := by unfold cAt; rw [List.getD_eq_getElem?_getD, hv]; rfl
  rw [e] at this
  exact this
end
section
variable {P : Program} {o : Oper} {n0 : Nat} {ops : List Oper} {rest : List Oper} {env : List (Nat × V)} {heap : List (Nat × Option Blk)} {next nt : Nat} {Q : St → Prop}
/-- a part of a row of the call's own: from then on nobody writes the row -/
theorem s_sliceO {α : Type} [Inhabited α] {f : α → List V} {t e s d id e' s' : Nat} {x : Operand} {lo hi : Option Operand} {l r : List α} {a b : Option Int} (m n : Nat) (ha : a.getD 0 = (m : Int)) (hb : b.getD l.length = (n : Int)) (hmn : m ≤ n) (hn : n ≤ l.length) (hr : (l.take n).drop m = r)
    (ho : o.op = .slice t x lo hi none := by rfl) (hx : opE env x = some (.own id) := by rfl) (hh : getH heap id = some (.row e' s' (l.map f)) := by rfl) (hlo : boundE env lo = some a := by rfl) (hhi : boundE env hi = some b := by rfl)
    (ht : P.underlying t = some (.slice e) := by rfl) (hs : sizeT P e = some s := by rfl) (hsl : ∀ x, (f x).length = s := by intro x; rfl)
    (hg : guardV env ops o.guard = some true := by rfl) (hd : o.dst = some d := by rfl) (hdn : Nat.blt d nt = true := by rfl) (h : RunL P n0 ops.toArray rest ⟨(d, .ro (r.map f)) :: env, (id, some (.fro (l.map f))) :: heap, next, nt⟩ Q) : RunL P n0 ops.toArray (o :: rest) ⟨env, heap, next, nt⟩ Q := by
  refine s_fro (id := id) hh ?_
  refine s_slice (f := f) (v := .own id) m n ha hb hmn hn hr ho hx ?_ hlo hhi ht hs hsl hg hd hdn h
  simp [roV, getH]
end
def ownOf : V → Option Nat
  | .own id => some id
  | .agg cs => ownL cs
  | _ => none
where ownL : List V → Option Nat
  | [] => none
  | c :: cs => match ownOf c with
    | some id => some id
    | none => ownL cs
section
variable {P : Program} {o : Oper} {n0 : Nat} {ops : List Oper} {rest : List Oper} {env : List (Nat × V)} {heap : List (Nat × Option Blk)} {next nt : Nat} {Q : St → Prop}
/-- a call that reads what is the call's own, and answers plainly -/
theorem s_snap {f : FuncId} {xs : Array Operand} {ts : Array TypeId} {vs vs' : List V} {r : V} {d : Nat} (hf : Fn P f vs' r) (ho : o.op = .call { callee := .value (.func f), args := xs, argTypes := ts } := by rfl) (hg : guardV env ops o.guard = some true := by rfl) (hd : o.dst = some d := by rfl) (hdn : Nat.blt d nt = true := by rfl)
    (hx : argsE env xs.toList = some vs := by rfl) (hs : snapV.snapL heap vs = some vs' := by rfl) (hr : flatV r = true := by rfl) (h : RunL P n0 ops.toArray rest ⟨(d, r) :: env, heap, next, nt⟩ Q) : RunL P n0 ops.toArray (o :: rest) ⟨env, heap, next, nt⟩ Q := by
  have := g_call_snap (P := P) (n0 := n0) (st := ⟨env, heap, next, nt⟩) ho (by rw [hd]; exact hdn) hx hs hf hr
  rw [hd] at this
  exact l_g hg this h
end
section
variable {P : Program} {o : Oper} {nt b0 k k' : Nat} {ops : List Oper} {W : Nat → Nat → Bool} {rest : List Oper} {env : List (Nat × V)} {heap : List (Nat × Option Blk)} {Q : St → Prop}
theorem p_snapO {f : FuncId} {xs : Array Operand} {ts : Array TypeId} {vs vs' : List V} {r : V} {d id : Nat} {B : Blk} (hf : Fn P f vs' r) (ho : o.op = .call { callee := .value (.func f), args := xs, argTypes := ts } := by rfl) (hg : guardV (lk (looks ops o) env) ops o.guard = some true := by rfl) (hd : o.dst = some d := by rfl) (hdn : Nat.blt d nt = true := by rfl)
    (hx : argsE (lk (looks ops o) env) xs.toList = some vs := by rfl) (hid : ownOf.ownL vs = some id := by rfl) (hB : getH heap id = some B := by rfl) (hs : snapV.snapL [(id, some B)] vs = some vs' := by rfl) (hr : flatV r = true := by rfl) (hk : k + 1 = k' := by (simp only [Nat.reduceAdd]; rfl)) (hb : Nat.ble b0 k = true := by rfl) (hv : vis ops W b0 (k - b0) id = true := by kernel_rfl) (h : PL P nt b0 ops W k' rest ((d, r) :: env) heap Q) : PL P nt b0 ops W k (o :: rest) env heap Q :=
  p_snap hf ho hg hd hdn hx hB hs hr hk hb hv h
end
section
variable {P : Program} {st : St}
/-- an end that hands memory back -/
theorem endm_ {fn : Func} {n0 k1 : Nat} {r r' v : V} {h1 : List (Nat × Option Blk)} {e : Exit} {L : List (Nat × Nat)} (he : e = .ret ∨ e = .normal := by first | exact .inl rfl | exact .inr rfl) (hv : resV P st fn.results.toList = some v := by rfl) (hN : NormP (pairs n0 ⟨[(0, v)], st.heap, 0, 0⟩ ⟨[(0, r)], h1, k1, 0⟩) L := by repeat' (first | exact NormP.nil | apply NormP.cons)) (hL : okP n0 k1 L = true := by rfl) (hs : sv (invL L) st.heap v = some r' := by rfl) (hr : Wk r' r) (hh : coverRH L st.heap h1) : EndsM P fn n0 r h1 k1 e st :=
  ⟨he, v, r', L, hv, hL, hs, hr, hh⟩
end
end Go.Proofs.Ytnbbnedpjfanoaa
