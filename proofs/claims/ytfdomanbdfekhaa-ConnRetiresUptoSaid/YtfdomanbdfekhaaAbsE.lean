/-
  A VALUE CALCULUS OVER THE MODEL, part 31: calls that read things of the call's own and answer new memory. Plain lemmas, over any program.
-/
import Derived.Test.YtfdomanbdfekhaaAbsD
set_option linter.unusedVariables false
set_option linter.unusedSimpArgs false
set_option linter.unusedVariables false
namespace Go.Proofs.Ytfdomanbdfekhaa
open Go.RowKit Go.ChangeMaps
section
variable {P : Program} {o : Oper} {n0 : Nat} {st : St} {G : List Nat}
/-- a call to which things of the call's own are handed, for reading, and which answers new memory: one row, all of whose cells stand for themselves -/
theorem g_snapB {k : Nat} {f : FuncId} {xs : Array Operand} {ts : Array TypeId} {vs vs' : List V} {e s d : Nat} {l : List (List V)} (ho : o.op = .call { callee := .value (.func f), args := xs, argTypes := ts }) (hd : o.dst = some d) (hdn : Nat.blt d st.nt = true)
    (hx : argsE st.env xs.toList = some vs) (hs : snapV.snapL st.heap vs = some vs') (hf : FnM P f vs' [] 0 (.own 0) [(0, some (.row e s l))] 1) (hlit : ∀ i j, i < l.length → j < s → ∃ u, cAt (eAt l i) j = .lit u) :
    GAt P k o st (st.newAt k d (.own k) (.row e s l)) := fun F base w0 ρ a w hH hE hnn hk => by
  obtain ⟨e1, e2⟩ := argsE_spec hE hx
  obtain ⟨g1, g2⟩ := snapL_spec hs
  unfold Oper.wp
  rw [run_call ho hf.1 a w, Oper.upon_enter]
  have hT : ∀ b, Stab (fun _ => True) (fun _ => none) [] b := fun b => ⟨trivial, fun id B u hB => by simp [getH] at hB⟩
  have hH0 : HRel (fun _ => True) (fun b => w.heap.size ≤ b) (fun _ => none) [] 0 w w :=
    { below := Frm.refl _ _
      hbase := fun b hb => hb
      hF := fun b _ => trivial
      sup := fun id u h => by cases h
      inj := fun id id' B B' u u' b h => by cases h
      blk := fun id B h => by cases h }
  have hsz : (xs.map a.eval).size = vs'.length := by rw [g1, e1]; simp
  refine (hf.2.2 (fun _ => True) _ w _ w (xs.map a.eval) hsz hH0 (fun j hj => ?_)).mono ?_
  · rw [g1] at hj
    have h := e2 j hj
    have e3 : (xs.toList.map a.eval).getD j undef = (xs.map a.eval).getD j undef := by
      rw [List.getD_eq_getElem?_getD, Array.getD_eq_getD_getElem?, ← Array.toList_map]
      simp
    rw [e3] at h
    exact snap_spec hH (fun b _ _ => hT b) (fun b _ _ => hT b) h (g2 j hj)
  · rintro e' w' ⟨v, ρ', rfl, q1, q2, _⟩
    have h0 := own_inv q2
    have hbl := q1.below.to_below
    obtain ⟨p0, v', ys, p1, ⟨p2, p2b⟩, p3, p4⟩ := q1.blk 0 (.row e s l) (by simp [getH])
    rw [h0] at p1; injection p1 with p1; subst p1
    have h1 := (q1.sup 0 _ h0).2
    rw [hd]
    refine next_new hH hE hnn hk hbl (fun _ b hb => p2b b hb) (Nat.le_of_ble_eq_true hdn) h1 (fun S hS _ hsame => ?_) (fun S => .own (upd_same _ _ _))
    refine ⟨p0, v, ys, upd_same _ _ _, ⟨p2, fun b hb => hH.hbase b (p2b b hb)⟩, p3, fun i j hi hj => ?_⟩
    obtain ⟨u, hu, hp, ho'⟩ := p4 i j hi hj
    obtain ⟨x, hx⟩ := hlit i j hi hj
    rw [hx] at hp ⊢
    cases hp with
    | lit => exact ⟨_, hu, .lit _ (by assumption), ho'⟩
theorem lit_bytes (l : List UInt8) : ∀ i j, i < (l.map encB).length → j < 1 → ∃ u, cAt (eAt (l.map encB) i) j = .lit u := fun i j hi hj => by
  rw [List.length_map] at hi
  obtain rfl : j = 0 := by omega
  have : eAt (l.map encB) i = encB l[i] := by
    unfold eAt
    rw [List.getD_eq_getElem?_getD, List.getElem?_map, List.getElem?_eq_getElem hi]; rfl
  rw [this]
  exact ⟨_, rfl⟩
section
variable {ops : List Oper} {rest : List Oper} {env : List (Nat × V)} {heap : List (Nat × Option Blk)} {next nt : Nat} {Q : St → Prop}
theorem s_snapB {f : FuncId} {xs : Array Operand} {ts : Array TypeId} {vs vs' : List V} {e d : Nat} {l : List UInt8} (hf : FnM P f vs' [] 0 (.own 0) [(0, some (.row e 1 (l.map encB)))] 1) (ho : o.op = .call { callee := .value (.func f), args := xs, argTypes := ts } := by rfl) (hg : guardV env ops o.guard = some true := by rfl) (hd : o.dst = some d := by rfl) (hdn : Nat.blt d nt = true := by rfl) (hn0 : Nat.ble n0 next = true := by rfl)
    (hx : argsE env xs.toList = some vs := by rfl) (hs : snapV.snapL heap vs = some vs' := by rfl) (h : RunL P n0 ops.toArray rest ⟨(d, .own next) :: env, (next, some (.row e 1 (l.map encB))) :: heap, next + 1, nt⟩ Q) : RunL P n0 ops.toArray (o :: rest) ⟨env, heap, next, nt⟩ Q :=
  l_g hg (gstep_of_at (Nat.le_of_ble_eq_true hn0) (g_snapB (st := { env := env, heap := heap, next := next + 1, nt := nt }) ho hd hdn hx hs hf (lit_bytes l))) h
end
end
end Go.Proofs.Ytfdomanbdfekhaa
