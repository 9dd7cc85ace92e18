/-
  A VALUE CALCULUS OVER THE MODEL, part 14: slices that are made, bytes out of strings, appends and stores into rows, as steps. Plain lemmas, over any program.
-/
import Derived.Test.YtnbbnedpjfanoaaAbs13
import Derived.Deep.OwnRows
set_option linter.unusedVariables false
set_option linter.unusedSimpArgs false
set_option linter.unusedVariables false
namespace Go.Proofs.Ytnbbnedpjfanoaa
open Go.RowKit
section
variable {P : Program} {G : List Nat} {o : Oper} {st : St} {n0 : Nat}

/-! ### Bytes out of a string -/
theorem g_bytes {T U e : TypeId} {x : Operand} {l : List UInt8} {d : Nat} (ho : o.op = .convert T U x) (hd : o.dst = some d) (hdn : Nat.blt d st.nt = true) (hx : opE st.env x = some (.lit (.string (strB l)))) (hT : P.underlying T = some .string) (hU : P.underlying U = some (.slice e)) (he : P.underlying e = some (.int .u8)) (h63 : l.length ≤ 140737488355328) :
    GStep P n0 o st { st with env := (d, .ro (l.map encB)) :: st.env } := fun F base w0 ρ a w hH hE => by
  have hrun := run_bytes_of_string (P := P) w T U e (strB l) hT hU he
  have hsz : (strB l).size = l.length := strB_size l
  generalize hcap : grownCap w (strB l).size 0 e = cap at hrun
  have hge : l.length ≤ cap := by rw [← hcap, ← hsz]; exact grownCap_ge w _ 0 e
  have hmx : cap ≤ maxLen := by rw [← hcap]; exact grownCap_le_maxLen w _ 0 e (by unfold maxLen; omega)
  rw [hsz] at hrun
  have hcell : ∀ i, i < l.length → (bytesRow (strB l) cap).getD i undef = .int .u8 ((l.getD i default).toNat : Int) := fun i hi => by
    unfold bytesRow
    rw [Array.getD_eq_getD_getElem?, Array.getElem?_append_left (by simp [strB, hi]), Array.getElem?_map]
    have : (strB l).data[i]? = some (l.getD i default) := by
      simp only [strB, List.getElem?_toArray, List.getElem?_eq_getElem hi, List.getD_eq_getElem?_getD, Option.getD_some]
    rw [this]; rfl
  have hrl : l.length ≤ (bytesRow (strB l) cap).size := by unfold bytesRow; simp [strB]
  generalize bytesRow (strB l) cap = R at hrun hcell hrl
  generalize (R.size, R.size + 1) = fz at hrun
  have hb : Below w.heap.size w (w.drew.alloc (.cells R e fz)) := by
    have := below_alloc w.drew (.cells R e fz)
    exact ⟨this.os, this.tape, this.output, this.size, this.block⟩
  have hnew : (w.drew.alloc (.cells R e fz)).heap[w.heap.size]? = some (.cells R e fz) := heap_alloc_new w.drew _
  have hsame : Same (Stab F ρ st.heap) w (w.drew.alloc (.cells R e fz)) := fun b _ hlt => hb.block b hlt
  refine wp_of_value (u := .slice (some ⟨w.heap.size, 0, none⟩) l.length cap) (w' := w.drew.alloc (.cells R e fz)) ?_ ?_
  · unfold execOp; rw [ho]; simp only []; rw [lit_inv (opE_sound hE hx)]
    simp only [Sem.run_bind, hrun]; rfl
  · rw [hd]
    refine ⟨ρ, hH.grow hb, (hE.mono hsame (fun b h _ => h) (fun _ _ h => h)).put (Nat.le_of_ble_eq_true hdn) (.pure ?_), fun _ _ h => h, fun _ _ => rfl⟩
    have := PRel.ro (S := Stab F ρ st.heap) (w := w.drew.alloc (.cells R e fz)) (l.map encB) (some ⟨w.heap.size, 0, none⟩) cap 1 w.heap.size 0 (fun i j => .int .u8 ((l.getD i default).toNat : Int)) (by rw [List.length_map]; exact hge) hmx (by omega) (fun _ => ⟨rfl, stab_new hH (Nat.le_refl _)⟩) len1
      (fun i j hi hj => by
        rw [List.length_map] at hi
        have hj0 : j = 0 := by omega
        subst hj0
        rw [Nat.mul_one, Nat.add_zero, Nat.zero_add]
        unfold World.cell?
        simp only [hnew, Option.isSome_none, Bool.false_eq_true, if_false]
        have := hcell i hi
        rw [Array.getD_eq_getD_getElem?, Array.getElem?_eq_getElem (by omega)] at this
        rw [Array.getElem?_eq_getElem (by omega)]
        simpa using this)
      (fun i j hi hj => by
        rw [List.length_map] at hi
        have hj0 : j = 0 := by omega
        subst hj0
        rw [eAt_map encB hi]
        exact .lit _ rfl)
    rwa [List.length_map] at this

/-! ### make -/
theorem a_make {k : Nat} {t e d n by_ : Nat} {x y : Operand} {kl kc : IntKind} {m1 m2 : Int} {z : Value} (ho : o.op = .makeSlice t x y) (hd : o.dst = some d) (hdn : Nat.blt d st.nt = true) (hx : opE st.env x = some (.lit (.int kl m1))) (hy : opE st.env y = some (.lit (.int kc m2))) (h1 : m1 = (n : Int)) (h2 : m2 = (n : Int))
    (ht : P.underlying t = some (.slice e)) (hs : sizeT P e = some 1) (hb : bytesT P e = some by_) (hz : zeroT P e = some [.lit z]) (hby : by_ * n ≤ 281474976710656) (h63 : n ≤ 9223372036854775807) : GAt P k o st (st.newAt k d (.own k) (.row e 1 (List.replicate n [.lit z]))) := fun F base w0 ρ a w hH hE hnn hk => by
  subst h1 h2
  obtain ⟨i, zv, hi, hz1, hsz, hbb, hzs⟩ := elem_info hs hb ⟨_, hz, rfl⟩
  obtain ⟨zv', e1, e2, e3⟩ := zeroT_spec hz
  have hzz : zv' = zv := by
    have h3 := e3 w
    simp [zeroValue, typeInfo, hi, hz1, Sem.run_bind, Sem.run_pure, program, Sem.run] at h3
    exact h3.symm
  subst hzz
  have hcells : zv'.cells = #[z] := by
    apply Array.toList_inj.1
    generalize zv'.cells.toList = L at e1
    match L, e1 with
    | [u], e1 => injection e1 with e1; injection e1 with e1; rw [e1]
  have hone : z.oneCell' = true := by
    rw [hcells] at e2; simpa using e2
  have hb' : (i.bytes : Int) * (n : Int) ≤ 281474976710656 := by
    rw [hbb]
    have h : ((by_ * n : Nat) : Int) ≤ 281474976710656 := by omega
    rwa [Int.natCast_mul] at h
  have hr := run_make (P := P) w t e i zv' ht hi hz1 kl kc n n (by omega) (Int.le_refl _) hb' (by omega)
  rw [Int.toNat_natCast, hsz, Nat.mul_one, hcells] at hr
  have hmc : ∀ j, j < n → (madeCells #[z] n).getD j undef = z := fun j hj => by
    have hj1 : j % 1 = 0 := Nat.mod_one j
    simp [madeCells, hj, hj1]
  refine wp_of_value (u := .slice (some ⟨w.heap.size, 0, none⟩) n n) (w' := w.alloc (.cells (madeCells #[z] n) e)) ?_ ?_
  · unfold execOp; rw [ho]; simp only []; rw [lit_inv (opE_sound hE hx), lit_inv (opE_sound hE hy)]
    simp only [Sem.run_bind, hr]; rfl
  · rw [hd]
    refine next_new hH hE hnn hk (below_alloc _ _) (fun _ b hb => by simp only [blockOf, Option.some.injEq] at hb; omega) (Nat.le_of_ble_eq_true hdn) rfl (fun S hS _ hsame => ?_) (fun S => .own (upd_same _ _ _))
    have hms := size_madeCells #[z] n
    have he : ∀ i, i < n → eAt (List.replicate n [V.lit z]) i = [V.lit z] := fun i hi => by
      unfold eAt; rw [List.getD_eq_getElem?_getD, List.getElem?_replicate, if_pos hi]; rfl
    refine ⟨by omega, _, (madeCells #[z] n).toList, upd_same _ _ _, ⟨⟨by rw [List.length_replicate, Array.length_toList, hms]; omega, .inr ⟨w.heap.size, n, madeCells #[z] n, by rw [List.length_replicate], Nat.zero_le _, alloc_cells _ _ _, by rw [List.length_replicate]; exact Nat.le_refl _, by unfold maxLen; omega, by rw [hms]; omega, ?_⟩⟩, fun b hb => ?_⟩, fun i hi => ?_, fun i j hi hj => ?_⟩
    · rw [List.length_replicate, List.take_of_length_le]
      rw [Array.length_toList, hms]; omega
    · simp only [blockOf, Option.some.injEq] at hb; exact hH.hbase b (by omega)
    · rw [List.length_replicate] at hi; rw [he i hi]; rfl
    · rw [List.length_replicate] at hi
      have hj0 : j = 0 := by omega
      subst hj0
      rw [he i hi]
      refine ⟨z, ?_, .lit z hone, hone⟩
      have := hmc i hi
      rw [Array.getD_eq_getD_getElem?, Array.getElem?_eq_getElem (by rw [hms]; exact hi)] at this
      rw [Nat.mul_one, Nat.add_zero, Array.getElem?_toList, Array.getElem?_eq_getElem (by rw [hms]; exact hi)]
      simpa using this

section
variable {ops : List Oper} {rest : List Oper} {env : List (Nat × V)} {heap : List (Nat × Option Blk)} {next nt : Nat} {Q : St → Prop}
theorem s_bytes {T U e : TypeId} {x : Operand} {l : List UInt8} {d : Nat} (ho : o.op = .convert T U x := by rfl) (hx : opE env x = some (.lit (.string (strB l))) := by rfl) (hT : P.underlying T = some .string := by rfl) (hU : P.underlying U = some (.slice e) := by rfl) (he : P.underlying e = some (.int .u8) := by rfl) (h63 : l.length ≤ 140737488355328 := by omega) (hg : guardV env ops o.guard = some true := by rfl) (hd : o.dst = some d := by rfl) (hdn : Nat.blt d nt = true := by rfl)
    (h : RunL P n0 ops.toArray rest ⟨(d, .ro (l.map encB)) :: env, heap, next, nt⟩ Q) : RunL P n0 ops.toArray (o :: rest) ⟨env, heap, next, nt⟩ Q :=
  l_g hg (g_bytes (st := ⟨env, heap, next, nt⟩) ho hd hdn hx hT hU he h63) h
theorem s_make {t e d by_ : Nat} {x y : Operand} {kl kc : IntKind} {m1 m2 : Int} {z : Value} (n : Nat) (h1 : m1 = (n : Int)) (h2 : m2 = (n : Int)) (hby : by_ * n ≤ 281474976710656) (h63 : n ≤ 9223372036854775807) (ho : o.op = .makeSlice t x y := by rfl) (hx : opE env x = some (.lit (.int kl m1)) := by rfl) (hy : opE env y = some (.lit (.int kc m2)) := by rfl)
    (ht : P.underlying t = some (.slice e) := by rfl) (hs : sizeT P e = some 1 := by rfl) (hb : bytesT P e = some by_ := by rfl) (hz : zeroT P e = some [.lit z] := by rfl) (hg : guardV env ops o.guard = some true := by rfl) (hd : o.dst = some d := by rfl) (hdn : Nat.blt d nt = true := by rfl) (hn0 : Nat.ble n0 next = true := by rfl)
    (h : RunL P n0 ops.toArray rest ⟨(d, .own next) :: env, (next, some (.row e 1 (List.replicate n [.lit z]))) :: heap, next + 1, nt⟩ Q) : RunL P n0 ops.toArray (o :: rest) ⟨env, heap, next, nt⟩ Q :=
  l_g hg (gstep_of_at (Nat.le_of_ble_eq_true hn0) (a_make (st := { env := env, heap := heap, next := next + 1, nt := nt }) ho hd hdn hx hy h1 h2 ht hs hb hz hby h63)) h
/-- a store into an own row -/
theorem s_set {T : TypeId} {x y : Operand} {id i j e s : Nat} {l r : List (List V)} {vs : List V} {v : V} (hi : i < l.length) (hr : l.set i (setAt j vs (eAt l i)) = r) (ho : o.op = .store T x y := by rfl) (hd : o.dst = none := by rfl) (hx : opE env x = some (.ptr id i s j) := by rfl) (hh : getH heap id = some (.row e s l) := by rfl) (hy : opE env y = some v := by rfl)
    (hf : flat v = some vs := by rfl) (hp : vs.all pureV = true := by rfl) (hT : sizeT P T = some vs.length := by rfl) (hl : Nat.ble (j + vs.length) s = true := by rfl) (hg : guardV env ops o.guard = some true := by rfl)
    (h : RunL P n0 ops.toArray rest ⟨env, (id, some (.row e s r)) :: heap, next, nt⟩ Q) : RunL P n0 ops.toArray (o :: rest) ⟨env, heap, next, nt⟩ Q := by
  subst hr
  exact l_g hg (g_store_row (st := ⟨env, heap, next, nt⟩) ho hd hx hh hi hy hf hp hT hl) h
/-- an append onto an own row -/
theorem s_app {x y : Operand} {t e s by_ id d : Nat} {l m r : List (List V)} {v : V} (hr : l ++ m = r) (hm : ∀ i, i < m.length → (eAt m i).length = s) (hby : (l.length + m.length) * by_ ≤ 140737488355328) (h63 : l.length + m.length ≤ 9223372036854775807)
    (ho : o.op = .call { callee := .builtin .append, args := #[x, y], argTypes := #[t, t] } := by rfl) (hx : opE env x = some (.own id) := by rfl) (hh : getH heap id = some (.row e s l) := by rfl) (hy : opE env y = some v := by rfl) (hv : srcV heap v = some m := by rfl)
    (ht : P.underlying t = some (.slice e) := by rfl) (hs : sizeT P e = some s := by rfl) (hb : bytesT P e = some by_ := by rfl) (hz : ∃ z, zeroT P e = some z ∧ z.length = s := by exact ⟨_, rfl, rfl⟩) (hg : guardV env ops o.guard = some true := by rfl) (hd : o.dst = some d := by rfl) (hdn : Nat.blt d nt = true := by rfl) (hn0 : Nat.ble n0 next = true := by rfl)
    (h : RunL P n0 ops.toArray rest ⟨(d, .own next) :: env, (next, some (.row e s r)) :: (id, none) :: heap, next + 1, nt⟩ Q) : RunL P n0 ops.toArray (o :: rest) ⟨env, heap, next, nt⟩ Q := by
  subst hr
  exact l_g hg (g_append (st := ⟨env, heap, next, nt⟩) ho hd hdn hn0 hx hh hy hv ht hs hb hz hm hby h63) h
/-- an empty slice in slot t becomes one of the call's own -/
theorem s_own {t : Nat} {l : List Oper} (e s : Nat) (ht : getE env t = some (.lit (.slice none 0 0)) := by rfl) (h0 : Nat.blt 0 s = true := by rfl) (hn0 : Nat.ble n0 next = true := by rfl)
    (h : RunL P n0 ops.toArray l ⟨(t, .own next) :: env, (next, some (.row e s [])) :: heap, next + 1, nt⟩ Q) : RunL P n0 ops.toArray l ⟨env, heap, next, nt⟩ Q :=
  l_less (less_own (n := 0) (st := ⟨env, heap, next, nt⟩) e s h0 hn0 ht) h
/-- an own row is data from now on -/
theorem s_fro {id e s : Nat} {r : List (List V)} {l : List Oper} (hh : getH heap id = some (.row e s r) := by rfl) (h : RunL P n0 ops.toArray l ⟨env, (id, some (.fro r)) :: heap, next, nt⟩ Q) : RunL P n0 ops.toArray l ⟨env, heap, next, nt⟩ Q :=
  l_less (less_fro (st := ⟨env, heap, next, nt⟩) hh) h
end
end
end Go.Proofs.Ytnbbnedpjfanoaa
