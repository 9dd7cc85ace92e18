/-
  A VALUE CALCULUS OVER THE MODEL, part 26: a string walked letter by letter (letters below 128). Plain lemmas, over any program.
-/
import Derived.Test.YtnbbnedpjfanoaaAbs25
import Derived.Laws.RangeString
set_option linter.unusedVariables false
set_option linter.unusedSimpArgs false
set_option linter.unusedVariables false
namespace Go.Proofs.Ytnbbnedpjfanoaa
open Go.RowKit Go.ChangeMaps
section
variable {P : Program} {o : Oper} {n0 : Nat} {st : St}
theorem a_rangeStr {k T d : Nat} {x : Operand} {s : ByteArray} (ho : o.op = .range T x) (hx : opE st.env x = some (.lit (.string s))) (hT : P.underlying T = some .string) (hd : o.dst = some d) (hdn : Nat.blt d st.nt = true) : GAt P k o st (st.newAt k d (.own k) (.obj (.stringIter s 0))) := fun F base w0 ρ a w hH hE hnn hk => by
  refine wp_of_value (u := .pointer (some ⟨w.heap.size, 0, none⟩)) (w' := w.alloc (.stringIter s 0)) ?_ ?_
  · unfold execOp; rw [ho]
    simp only [Sem.run_bind, lit_inv (opE_sound hE hx), run_range_string w T s hT]; rfl
  · rw [hd]
    refine next_new hH hE hnn hk (below_alloc _ _) (fun _ b hb => by simp only [blockOf, Option.some.injEq] at hb; omega) (Nat.le_of_ble_eq_true hdn) rfl (fun S hS _ hsame => ?_) (fun S => .own (upd_same _ _ _))
    exact ⟨w.heap.size, upd_same _ _ _, hH.hbase _ (Nat.le_refl _), heap_alloc_new _ _⟩
theorem run_nextStr {b p : Nat} {s : ByteArray} {ty : TypeId} {w : World} (h : w.heap[b]? = some (.stringIter s p)) (hp : p < s.size) (ha : (s[p]'hp).toNat < 128) :
    (Instr.next (.pointer (some ⟨b, 0, none⟩)) true ty).run P w = .ok (.tuple #[.bool true, .int .i64 p, .int .i32 ((s[p]'hp).toNat : Int)]) (setBlock w b (.stringIter s (p + 1))) := by
  simp [Instr.next, getObj, setObj, Sem.run_bind, Sem.run, h, hp, decode_ascii s p hp ha, goInt, setBlock, Result.andThen]
theorem run_nextStr_end {b p : Nat} {s : ByteArray} {ty : TypeId} {w : World} (h : w.heap[b]? = some (.stringIter s p)) (hp : ¬ p < s.size) :
    (Instr.next (.pointer (some ⟨b, 0, none⟩)) true ty).run P w = .ok (.tuple #[.bool false]) w := by
  simp [Instr.next, getObj, Sem.run_bind, Sem.run, h, hp, Result.andThen]
theorem heap_setO {w : World} {b : Nat} {o' : Obj} (h : w.heap[b]? = some o') (o : Obj) : (setBlock w b o).heap[b]? = some o := by
  have hlt := (Array.getElem?_eq_some_iff.1 h).1
  simp [setBlock, hlt]
theorem heap_setO_other (w : World) (b : Nat) (o : Obj) {i : Nat} (h : i ≠ b) : (setBlock w b o).heap[i]? = w.heap[i]? := by
  unfold setBlock
  rw [Array.getElem?_setIfInBounds, if_neg (Ne.symm h)]
theorem g_nextStr {d id p c : Nat} {x : Operand} {s : ByteArray} (ho : o.op = .next x true) (hd : o.dst = some d) (hdn : Nat.blt d st.nt = true) (hx : opE st.env x = some (.own id)) (hh : getH st.heap id = some (.obj (.stringIter s p))) (hp : p < s.size) (hc : (s[p]'hp).toNat = c) (ha : c < 128) :
    GStep P n0 o st { st with env := (d, .tup [.lit (.bool true), .lit (.int .i64 p), .lit (.int .i32 c)]) :: st.env, heap := (id, some (.obj (.stringIter s (p + 1)))) :: st.heap } := fun F base w0 ρ a w hH hE => by
  subst hc
  have h1 := own_inv (opE_sound hE hx)
  obtain ⟨b, e1, e2, e3⟩ := hH.blk _ _ hh
  rw [h1] at e1; injection e1 with e1
  have hns : ¬ Stab F ρ st.heap b := fun hs => hs.2 id _ _ hh rfl (by rw [h1, e1]) rfl
  refine wp_of_value (u := .tuple #[.bool true, .int .i64 p, .int .i32 ((s[p]'hp).toNat : Int)]) (w' := setBlock w b (.stringIter s (p + 1))) ?_ ?_
  · unfold execOp; rw [ho]
    simp only []
    rw [e1]
    simp only [Sem.run_bind, run_nextStr (P := P) e3 hp ha]
    rfl
  · rw [hd]
    have hg : w.grownBy (setBlock w b (.stringIter s (p + 1))) (some b) := ⟨rfl, rfl, rfl, by simp [setBlock], fun i _ hi => heap_setO_other w b _ (fun e => hi (by rw [e]))⟩
    obtain ⟨q1, q2, q3⟩ := hH.step (ρ' := ρ) (heap' := (id, some (.obj (.stringIter s (p + 1)))) :: st.heap) (next' := st.next) id (some b) hg
      (fun k hk => by injection hk with hk; subst hk; exact ⟨e2, hns⟩) (fun _ _ h => h) (fun id u h => hH.sup id u h)
      (fun i B hne hB => by
        rw [getH_new, if_neg (Ne.symm hne)] at hB
        refine ⟨hB, ?_⟩
        obtain ⟨u, hu⟩ := hH.some_of hB
        exact ⟨u, hu, fun ho b' hb e => by injection e with e; subst e; exact hne (hH.inj i id B _ u _ b hB hh ho rfl hu (by rw [h1, e1]) hb rfl)⟩)
      (fun B u b' hB ho hu hb => by
        rw [h1, e1] at hu; injection hu with hu; subst hu
        simp only [blockOf, Option.some.injEq] at hb; subst hb
        refine .inr ⟨hns, fun i B' u' hne hB' ho' hu' hb' => ?_⟩
        rw [getH_new, if_neg (Ne.symm hne)] at hB'
        exact hne (hH.inj i id B' _ u' _ b hB' hh ho' rfl hu' (by rw [h1, e1]) hb' rfl))
      (fun B hB hS hsame => by
        rw [getH_new, if_pos rfl] at hB; injection hB with hB; subst hB
        exact ⟨b, by rw [h1, e1], e2, heap_setO e3 _⟩)
    refine ⟨ρ, q1, (hE.mono q2 q3 (fun _ _ h => h)).put (Nat.le_of_ble_eq_true hdn) (.tup rfl (fun j hj => ?_)), fun _ _ h => h, fun _ _ => rfl⟩
    simp only [List.length_cons, List.length_nil] at hj
    rcases (show j = 0 ∨ j = 1 ∨ j = 2 by omega) with rfl | rfl | rfl
    · exact .pure (.lit _ rfl)
    · exact .pure (.lit _ rfl)
    · exact .pure (.lit _ rfl)
theorem g_nextEnd {d id p : Nat} {x : Operand} {s : ByteArray} (ho : o.op = .next x true) (hd : o.dst = some d) (hdn : Nat.blt d st.nt = true) (hx : opE st.env x = some (.own id)) (hh : getH st.heap id = some (.obj (.stringIter s p))) (hp : ¬ p < s.size) :
    GStep P n0 o st { st with env := (d, .tup [.lit (.bool false)]) :: st.env } := fun F base w0 ρ a w hH hE => by
  have h1 := own_inv (opE_sound hE hx)
  obtain ⟨b, e1, e2, e3⟩ := hH.blk _ _ hh
  rw [h1] at e1; injection e1 with e1
  refine wp_of_value (u := .tuple #[.bool false]) (w' := w) ?_ ?_
  · unfold execOp; rw [ho]
    simp only []
    rw [e1]
    simp only [Sem.run_bind, run_nextStr_end (P := P) e3 hp]
    rfl
  · rw [hd]
    refine ⟨ρ, hH, hE.put (Nat.le_of_ble_eq_true hdn) (.tup rfl (fun j hj => ?_)), fun _ _ h => h, fun _ _ => rfl⟩
    simp only [List.length_cons, List.length_nil] at hj
    rcases (show j = 0 by omega) with rfl
    exact .pure (.lit _ rfl)
section
variable {ops : List Oper} {rest : List Oper} {env : List (Nat × V)} {heap : List (Nat × Option Blk)} {next nt : Nat} {Q : St → Prop}
theorem strB_getN {l : List UInt8} {p : Nat} (hp : p < l.length) (h : p < (strB l).size) : ((strB l)[p]'h).toNat = (l.getD p default).toNat := by
  have e : (strB l)[p]'h = l.getD p default := by
    rw [List.getD_eq_getElem?_getD, List.getElem?_eq_getElem hp]
    simp [strB]
    rfl
  rw [e]
theorem s_rangeStr {T d : Nat} {x : Operand} {l : List UInt8} (ho : o.op = .range T x := by rfl) (hx : opE env x = some (.lit (.string (strB l))) := by rfl) (hT : P.underlying T = some .string := by rfl) (hg : guardV env ops o.guard = some true := by rfl) (hd : o.dst = some d := by rfl) (hdn : Nat.blt d nt = true := by rfl) (hn0 : Nat.ble n0 next = true := by rfl)
    (h : RunL P n0 ops.toArray rest ⟨(d, .own next) :: env, (next, some (.obj (.stringIter (strB l) 0))) :: heap, next + 1, nt⟩ Q) : RunL P n0 ops.toArray (o :: rest) ⟨env, heap, next, nt⟩ Q :=
  l_g hg (gstep_of_at (Nat.le_of_ble_eq_true hn0) (a_rangeStr (st := { env := env, heap := heap, next := next + 1, nt := nt }) ho hx hT hd hdn)) h
theorem s_nextStr {d id p : Nat} {x : Operand} {l : List UInt8} (hp : p < l.length) (ha : (l.getD p default).toNat < 128) (ho : o.op = .next x true := by rfl) (hx : opE env x = some (.own id) := by rfl) (hh : getH heap id = some (.obj (.stringIter (strB l) p)) := by rfl) (hg : guardV env ops o.guard = some true := by rfl) (hd : o.dst = some d := by rfl) (hdn : Nat.blt d nt = true := by rfl)
    (h : RunL P n0 ops.toArray rest ⟨(d, .tup [.lit (.bool true), .lit (.int .i64 p), .lit (.int .i32 ((l.getD p default).toNat : Int))]) :: env, (id, some (.obj (.stringIter (strB l) (p + 1)))) :: heap, next, nt⟩ Q) : RunL P n0 ops.toArray (o :: rest) ⟨env, heap, next, nt⟩ Q :=
  l_g hg (g_nextStr (st := ⟨env, heap, next, nt⟩) ho hd hdn hx hh (by rw [strB_size]; exact hp) (strB_getN hp _) ha) h
theorem s_nextEnd {d id p : Nat} {x : Operand} {l : List UInt8} (hp : ¬ p < l.length) (ho : o.op = .next x true := by rfl) (hx : opE env x = some (.own id) := by rfl) (hh : getH heap id = some (.obj (.stringIter (strB l) p)) := by rfl) (hg : guardV env ops o.guard = some true := by rfl) (hd : o.dst = some d := by rfl) (hdn : Nat.blt d nt = true := by rfl)
    (h : RunL P n0 ops.toArray rest ⟨(d, .tup [.lit (.bool false)]) :: env, heap, next, nt⟩ Q) : RunL P n0 ops.toArray (o :: rest) ⟨env, heap, next, nt⟩ Q :=
  l_g hg (g_nextEnd (st := ⟨env, heap, next, nt⟩) ho hd hdn hx hh (by rw [strB_size]; exact hp)) h
end
end
end Go.Proofs.Ytnbbnedpjfanoaa
