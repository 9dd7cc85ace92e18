/- A VALUE CALCULUS OVER THE MODEL: one of the call's own under a new number. Plain lemmas, over any program. -/
import Derived.Test.YtfdomanbdfekhaaAbsF
set_option linter.unusedSimpArgs false
set_option linter.unusedVariables false
namespace Go.Proofs.Ytfdomanbdfekhaa
open Go.RowKit
section
variable {P : Program} {n0 : Nat}
def mvI (a b x : Nat) : Nat := bif Nat.beq x a then b else x
theorem mvI_a (a b : Nat) : mvI a b a = b := by unfold mvI; rw [Nat.beq_refl]; rfl
theorem mvI_o {a b x : Nat} (h : x ≠ a) : mvI a b x = x := by
  unfold mvI
  cases e : Nat.beq x a with
  | true => exact absurd (Nat.eq_of_beq_eq_true e) h
  | false => rfl
def coverM (m : Nat → Nat) (env : List (Nat × V)) : List (Nat × V) → Prop
  | [] => True
  | (t, v) :: r => (∃ u, getE env t = some u ∧ fv m u = v) ∧ coverM m env r
theorem coverM_spec {m : Nat → Nat} {env : List (Nat × V)} : ∀ {e : List (Nat × V)}, coverM m env e → ∀ t v, getE e t = some v → ∃ u, getE env t = some u ∧ fv m u = v
  | [], _, t, v, h => by simp [getE] at h
  | (s, x) :: r, hc, t, v, h => by
    simp only [getE] at h
    cases hb : Nat.beq s t with
    | true => rw [hb] at h; simp only [cond_true, Option.some.injEq] at h; rw [← h, ← Nat.eq_of_beq_eq_true hb]; exact hc.1
    | false => rw [hb] at h; exact coverM_spec hc.2 t v h
def coverMH (m : Nat → Nat) (heap : List (Nat × Option Blk)) : List (Nat × Option Blk) → Prop
  | [] => True
  | (_, none) :: r => coverMH m heap r
  | (id, some B') :: r => (∃ i B, m i = id ∧ getH heap i = some B ∧ fB m B = B') ∧ coverMH m heap r
theorem coverMH_spec {m : Nat → Nat} {heap : List (Nat × Option Blk)} : ∀ {e : List (Nat × Option Blk)}, coverMH m heap e → ∀ id B', getH e id = some B' → ∃ i B, m i = id ∧ getH heap i = some B ∧ fB m B = B'
  | [], _, t, v, h => by simp [getH] at h
  | (s, none) :: r, hc, t, v, h => by
    rw [getH_new] at h
    split at h
    · cases h
    · exact coverMH_spec (e := r) hc t v h
  | (s, some u) :: r, hc, t, v, h => by
    rw [getH_new] at h
    split at h
    · rename_i e; subst e; injection h with h; subst h; exact hc.1
    · exact coverMH_spec (e := r) hc.2 t v h
theorem less_mv {st st' : St} (a : Nat) (hn0 : Nat.ble n0 st.next = true) (hE' : coverM (mvI a st.next) st.env st'.env) (hH' : coverMH (mvI a st.next) st.heap st'.heap) (hn : st'.next = st.next + 1) (hnt : st'.nt = st.nt) : Less P n0 st st' := fun F base w0 ρ act w hH hE => by
  have hE2 := coverM_spec hE'
  have hH2 := coverMH_spec hH'
  clear hE' hH'
  generalize hb : st.next = b at *
  let ρ' : Nat → Option Value := fun id => if id = b then ρ a else ρ id
  have hup : ∀ id u, ρ id = some u → ρ' (mvI a b id) = some u := fun id u hu => by
    by_cases e : id = a
    · subst e; rw [mvI_a]; show (if b = b then ρ id else ρ b) = some u; rw [if_pos rfl]; exact hu
    · rw [mvI_o e]
      show (if id = b then ρ a else ρ id) = some u
      have := (hH.sup id u hu).1
      rw [if_neg (by omega)]; exact hu
  -- what the new memory's numbers stand for
  have hdn : ∀ i B, getH st.heap i = some B → ρ' (mvI a b i) = ρ i := fun i B hB => by
    have hi : ∃ u, ρ i = some u := by
      have := hH.blk i B hB
      cases B with
      | box t cs => obtain ⟨_, _, h, _⟩ := this; exact ⟨_, h⟩
      | row e s l => obtain ⟨_, _, _, h, _⟩ := this; exact ⟨_, h⟩
      | fro l => obtain ⟨_, h, _⟩ := this; exact ⟨_, h⟩
      | map q es => obtain ⟨_, _, _, h, _⟩ := this; exact ⟨_, h⟩
      | obj o => obtain ⟨_, h, _⟩ := this; exact ⟨_, h⟩
      | rox e s l => obtain ⟨_, _, _, h, _⟩ := this; exact ⟨_, h⟩
      | fmap q es => obtain ⟨_, _, _, h, _⟩ := this; exact ⟨_, h⟩
      | iter left cur => obtain ⟨_, _, _, _, _, _, _, h, _⟩ := this; exact ⟨_, h⟩
    obtain ⟨u, hu⟩ := hi
    rw [hup i u hu, hu]
  have hst : ∀ x, Stab F ρ st.heap x → Stab F ρ' st'.heap x := fun x h => ⟨h.1, fun id B' u hB ho hu => by
    obtain ⟨i, B, rfl, h2, rfl⟩ := hH2 id B' hB
    rw [hdn i B h2] at hu
    exact h.2 i B u h2 (by rw [fB_owns] at ho; exact ho) hu⟩
  have hS : ∀ x, Stab F ρ st.heap x → x < w.heap.size → Stab F ρ' st'.heap x := fun x h _ => hst x h
  refine ⟨ρ', ⟨⟨hH.below, hH.hbase, fun id u hu => ?_, fun id id' B B' u u' x hB hB' ho ho' hu hu' hx hx' => ?_, fun id B' hB' => ?_⟩, hH.hF⟩, ⟨by rw [hnt]; exact hE.size, hE.defers, fun t v hv => ?_⟩, fun id hid => ?_⟩
  · rw [hn]
    have hu : (if id = b then ρ a else ρ id) = some u := hu
    split at hu
    · have := hH.sup a u hu; exact ⟨by omega, this.2⟩
    · have := hH.sup id u hu; exact ⟨by omega, this.2⟩
  · obtain ⟨i, C, rfl, h2, rfl⟩ := hH2 id B hB
    obtain ⟨j, C', rfl, k2, rfl⟩ := hH2 id' B' hB'
    rw [hdn i C h2] at hu
    rw [hdn j C' k2] at hu'
    rw [fB_owns] at ho ho'
    rw [hH.inj i j C C' u u' x h2 k2 ho ho' hu hu' hx hx']
  · obtain ⟨i, B, rfl, h2, rfl⟩ := hH2 id B' hB'
    have hbk := hH.blk i B h2
    have e := hdn i B h2
    cases B with
    | box t cs =>
      obtain ⟨b, us, q1, q2, q3, q4, q5⟩ := hbk
      refine ⟨b, us, by rw [e]; exact q1, q2, q3, by rw [fvL_len]; exact q4, fun j hj => ?_⟩
      rw [fvL_len] at hj
      rw [fvL_at hj]
      exact ⟨fv_up hS hup (q5 j hj).1, (q5 j hj).2⟩
    | row ty s l =>
      obtain ⟨h0', v, xs, q1, q2, q3, q4⟩ := hbk
      exact ⟨h0', v, xs, by rw [e]; exact q1, q2, q3, fun i j hi hj => by
        obtain ⟨u, hu, hp, ho⟩ := q4 i j hi hj
        exact ⟨u, hu, hp.mono (Same.refl _ _) hS, ho⟩⟩
    | fro l =>
      obtain ⟨v, q1, q2, q3⟩ := hbk
      exact ⟨v, by rw [e]; exact q1, q2.mono (Same.refl _ _) hS, q3⟩
    | map q es =>
      obtain ⟨b, mes, clock, q1, q2⟩ := hbk
      exact ⟨b, mes, clock, by rw [e]; exact q1, q2⟩
    | obj o =>
      obtain ⟨b, q1, q2⟩ := hbk
      exact ⟨b, by rw [e]; exact q1, q2⟩
    | rox ty s l =>
      obtain ⟨h0', v, xs, q1, q2, q3, q4⟩ := hbk
      refine ⟨h0', v, xs, by rw [e]; exact q1, by rw [List.length_map]; exact q2, fun i hi => ?_, fun i j hi hj => ?_⟩
      · rw [List.length_map] at hi; rw [eAt_fmap hi, fvL_len]; exact q3 i hi
      · rw [List.length_map] at hi
        obtain ⟨u, hu, hp, ho⟩ := q4 i j hi hj
        rw [eAt_fmap hi, fvL_at (by rw [q3 i hi]; exact hj)]
        exact ⟨u, hu, fv_up hS hup hp, ho⟩
    | fmap q es =>
      obtain ⟨b, mes, clock, q1, q2, q3⟩ := hbk
      exact ⟨b, mes, clock, by rw [e]; exact q1, hS b q2 (Array.getElem?_eq_some_iff.1 q3.1).1, q3⟩
    | iter left cur =>
      obtain ⟨r, b, mes, clock, since, seen, c0, q1, q2, q3, q4, q5⟩ := hbk
      exact ⟨r, b, mes, clock, since, seen, c0, by rw [e]; exact q1, q2, q3, hS b q4 (Array.getElem?_eq_some_iff.1 q5.1).1, q5⟩
  · obtain ⟨u, h1, rfl⟩ := hE2 t v hv
    exact fv_up hS hup (hE.slot t u h1)
  · show (if id = b then ρ a else ρ id) = ρ id
    have := Nat.le_of_ble_eq_true hn0
    rw [if_neg (by omega)]
theorem mv_ {st st' : St} (a : Nat) (hn0 : Nat.ble n0 st.next = true := by rfl)
    (hE' : coverM (mvI a st.next) st.env st'.env := by ((repeat' (first | exact True.intro | exact ⟨_, rfl, rfl⟩ | refine And.intro ?_ ?_)); done))
    (hH' : coverMH (mvI a st.next) st.heap st'.heap := by ((repeat' (first | exact True.intro | exact ⟨0, _, rfl, rfl, rfl⟩ | exact ⟨1, _, rfl, rfl, rfl⟩ | exact ⟨2, _, rfl, rfl, rfl⟩ | exact ⟨3, _, rfl, rfl, rfl⟩ | exact ⟨4, _, rfl, rfl, rfl⟩ | exact ⟨5, _, rfl, rfl, rfl⟩ | exact ⟨6, _, rfl, rfl, rfl⟩ | exact ⟨7, _, rfl, rfl, rfl⟩ | exact ⟨8, _, rfl, rfl, rfl⟩ | refine And.intro ?_ ?_)); done))
    (hn : st'.next = st.next + 1 := by rfl) (hnt : st'.nt = st.nt := by rfl) : Less P n0 st st' := less_mv a hn0 hE' hH' hn hnt
end
theorem cAt_part {cs : List V} {a s j : Nat} (hj : j < s) (hc : a + s ≤ cs.length) : cAt ((cs.drop a).take s) j = cAt cs (a + j) := by
  unfold cAt
  rw [List.getD_eq_getElem?_getD, List.getD_eq_getElem?_getD, List.getElem?_take, if_pos hj, List.getElem?_drop]
theorem q_index_aggS {P : Program} {G : List Nat} {o : Oper} {st : St} {T e N n s : Nat} {x y : Operand} {cs : List V} {k : IntKind} {m : Int} (ho : o.op = .index T x y) (hx : opE st.env x = some (.agg cs)) (hy : opE st.env y = some (.lit (.int k m)))
    (hm : m = (n : Int)) (hT : P.underlying T = some (.array N e)) (hn : n < N) (hc : n * s + s ≤ cs.length) (ha : aggT P e = some true) (hs : sizeT P e = some s) : QStep P G o st (.agg ((cs.drop (n * s)).take s)) :=
  q_of_run fun F base w0 ρ a w hH hE => by
    subst hm
    obtain ⟨us, e1, e2, e3⟩ := agg_inv (opE_sound hE hx)
    have hl : ((cs.drop (n * s)).take s).length = s := by rw [List.length_take, List.length_drop]; omega
    have hz : (us.extract (n * s) (n * s + s)).size = s := by rw [Array.size_extract]; omega
    refine ⟨.agg (us.extract (n * s) (n * s + s)), .agg (by rw [hz, hl]) (fun j hj => ?_), fun w' => ?_⟩
    · rw [hl] at hj
      rw [cAt_part hj hc]
      have h3 := e3 (n * s + j) (by omega)
      have hv : (us.extract (n * s) (n * s + s)).getD j undef = us.getD (n * s + j) undef := by
        rw [Array.getD_eq_getD_getElem?, Array.getD_eq_getD_getElem?, Array.getElem?_extract]
        rw [if_pos (by omega)]
      rw [hv]; exact h3
    · unfold execOp; rw [ho]; simp only []; rw [e1, lit_inv (opE_sound hE hy)]
      simp [Instr.index, asIntOf, run_underlying hT, Sem.run_bind, Sem.run_pure, hn, run_sizeT hs, part, run_aggT ha]
section
variable {P : Program} {o : Oper} {n0 : Nat} {ops : List Oper} {rest : List Oper} {env : List (Nat × V)} {heap : List (Nat × Option Blk)} {next nt : Nat} {Q : St → Prop}
/-- a struct out of an array that is a value -/
theorem s_ixs {T e N n s d : Nat} {x y : Operand} {cs r : List V} {k : IntKind} {m : Int} (ho : o.op = .index T x y := by rfl) (hx : opE env x = some (.agg cs) := by rfl) (hy : opE env y = some (.lit (.int k m)) := by rfl)
    (hm : m = (n : Int) := by first | exact lit0 | exact lit1 | exact lit2 | exact lit3 | rfl) (hT : P.underlying T = some (.array N e) := by rfl) (hn : Nat.blt n N = true := by rfl) (ha : aggT P e = some true := by rfl) (hs : sizeT P e = some s := by rfl) (hc : Nat.ble (n * s + s) cs.length = true := by rfl) (hr : (cs.drop (n * s)).take s = r := by rfl)
    (hg : guardV env ops o.guard = some true := by rfl) (hd : o.dst = some d := by rfl) (hdn : Nat.blt d nt = true := by rfl) (h : RunL P n0 ops.toArray rest ⟨(d, .agg r) :: env, heap, next, nt⟩ Q) : RunL P n0 ops.toArray (o :: rest) ⟨env, heap, next, nt⟩ Q := by
  refine x_q hg hd hdn ?_ h
  rw [← hr]
  exact q_index_aggS (P := P) (G := []) (st := ⟨env, heap, next, nt⟩) ho hx hy hm hT (Nat.le_of_ble_eq_true hn) (Nat.le_of_ble_eq_true hc) ha hs
end
/-! ### Data whose nil cells are read as data -/
theorem ro_wk {S : Nat → Prop} {w : World} {l l' : List (List V)} {u : Value} (hlen : l'.length = l.length) (hL : ∀ i, i < l.length → (eAt l' i).length = (eAt l i).length)
    (hw : ∀ i j, i < l.length → j < (eAt l i).length → WkC (cAt (eAt l i) j) (cAt (eAt l' i) j)) (h : PRel S w (.ro l) u) : PRel S w (.ro l') u := by
  cases h with
  | ro l A c s b off us hc hm hp hA hs hcell hrel =>
    rw [← hlen] at hc hA hs hcell hrel hL hw ⊢
    exact .ro l' A c s b off us hc hm hp hA (fun i hi => by rw [hL i hi]; exact hs i hi) hcell (fun i j hi hj => (hw i j hi (by rw [hs i hi]; exact hj)).rel (hrel i j hi hj))
theorem fn_last {P : Program} {f : FuncId} {vs : List V} {l l' : List (List V)} {r : V} (h : Fn P f (vs ++ [.ro l']) r) (hlen : l'.length = l.length) (hL : ∀ i, i < l.length → (eAt l' i).length = (eAt l i).length)
    (hw : ∀ i j, i < l.length → j < (eAt l i).length → WkC (cAt (eAt l i) j) (cAt (eAt l' i) j)) : Fn P f (vs ++ [.ro l]) r := by
  unfold Fn at *
  refine ⟨h.1, fun w S vals h1 h2 h3 => h.2 w S vals (by rw [h1]; simp) h2 (fun j hl => ?_)⟩
  have h3 := h3 j (by simpa using hl)
  by_cases hj : j < vs.length
  · have e : ∀ x : V, cAt (vs ++ [x]) j = cAt vs j := fun x => by unfold cAt; rw [List.getD_eq_getElem?_getD, List.getD_eq_getElem?_getD, List.getElem?_append_left hj]
    rw [e] at h3 ⊢; exact h3
  · have hj : j = vs.length := by simp at hl; omega
    have e : ∀ x : V, cAt (vs ++ [x]) j = x := fun x => by unfold cAt; rw [List.getD_eq_getElem?_getD, List.getElem?_append_right (by omega), hj, Nat.sub_self]; rfl
    rw [e] at h3 ⊢
    cases h3 with
    | pure h => exact .pure (ro_wk hlen hL hw h)
end Go.Proofs.Ytfdomanbdfekhaa
