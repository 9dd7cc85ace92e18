/-
  A VALUE CALCULUS OVER THE MODEL, part 28: a nil slice in a box of one cell, taken for a row of the call's own. Plain lemmas, over any program.
-/
import Derived.Test.YtfdomanbdfekhaaAbsB
set_option linter.unusedVariables false
set_option linter.unusedSimpArgs false
set_option linter.unusedVariables false
namespace Go.Proofs.Ytfdomanbdfekhaa
open Go.RowKit
section
variable {P : Program} {n0 : Nat}
theorem less_row {st : St} (e s : Nat) (h0 : Nat.blt 0 s = true) (hn0 : Nat.ble n0 st.next = true) {F : Nat → Prop} {base : Nat → Prop} {w0 w : World} {ρ : Nat → Option Value} {a : Act} (hH : HRel F base ρ st.heap st.next w0 w) (hE : ERel ρ (Stab F ρ st.heap) w st.nt st.env a) :
    ∃ ρ', HRel F base ρ' ((st.next, some (.row e s [])) :: st.heap) (st.next + 1) w0 w ∧ ERel ρ' (Stab F ρ' ((st.next, some (.row e s [])) :: st.heap)) w st.nt st.env a ∧ ρ' st.next = some (.slice none 0 0) ∧ ∀ id, id ≠ st.next → ρ' id = ρ id := by
  have hnn : ρ st.next = none := by
    cases h : ρ st.next with
    | none => rfl
    | some x => exact absurd (hH.sup _ _ h).1 (Nat.lt_irrefl _)
  have hext : ∀ id x, ρ id = some x → upd ρ st.next (.slice none 0 0) id = some x := fun id x h => by rw [upd_ne _ _ (fun e => by rw [e, hnn] at h; cases h)]; exact h
  obtain ⟨q1, q2, q3⟩ := hH.step (ρ' := upd ρ st.next (.slice none 0 0)) (heap' := (st.next, some (.row e s [])) :: st.heap) (next' := st.next + 1) (w' := w) st.next none
    ⟨rfl, rfl, rfl, Nat.le_refl _, fun _ _ _ => rfl⟩ (fun k hk => by cases hk) hext
    (fun id x h => by
      by_cases e : id = st.next
      · rw [e, upd_same] at h; injection h with h; subst h; exact ⟨by omega, rfl⟩
      · rw [upd_ne _ _ e] at h; have := hH.sup _ _ h; exact ⟨by omega, this.2⟩)
    (fun j B hne hB => by
      rw [getH_new, if_neg (Ne.symm hne)] at hB
      obtain ⟨u, hu⟩ := hH.some_of hB
      exact ⟨hB, u, hu, fun _ _ _ e => by cases e⟩)
    (fun B u b hB hoB hu hb => by
      rw [upd_same] at hu; injection hu with hu; subst hu
      simp [blockOf] at hb)
    (fun B hB hS hsame => by
      rw [getH_new, if_pos rfl] at hB; injection hB with hB; subst hB
      exact ⟨Nat.le_of_ble_eq_true h0, _, [], upd_same _ _ _, ⟨World.ownsRow_nil w 0 e s, fun b hb => by cases hb⟩, fun i hi => by simp at hi, fun i j hi => by simp at hi⟩)
  exact ⟨_, q1, hE.mono q2 q3 hext, upd_same _ _ _, fun id h => upd_ne _ _ h⟩
theorem less_box1 {id T : Nat} {st : St} (e s : Nat) (h0 : Nat.blt 0 s = true) (hn0 : Nat.ble n0 st.next = true) (hne : Nat.beq id st.next = false) (hh : getH st.heap id = some (.box T [.lit (.slice none 0 0)])) :
    Less P n0 st { env := st.env, heap := (id, some (.box T [.own st.next])) :: (st.next, some (.row e s [])) :: st.heap, next := st.next + 1, nt := st.nt } := fun F base w0 ρ a w hH hE => by
  obtain ⟨ρ', q1, q2, q3, q4⟩ := less_row e s h0 hn0 hH hE
  have hidn : id ≠ st.next := fun e => by rw [e] at hne; simp at hne
  have hh' : getH ((st.next, some (.row e s [])) :: st.heap) id = some (.box T [.lit (.slice none 0 0)]) := by
    rw [getH_new, if_neg (Ne.symm hidn)]; exact hh
  obtain ⟨p1, p2, p3⟩ := q1.step (ρ' := ρ') (heap' := (id, some (.box T [.own st.next])) :: (st.next, some (.row e s [])) :: st.heap) (next' := st.next + 1) (w' := w) id none
    ⟨rfl, rfl, rfl, Nat.le_refl _, fun _ _ _ => rfl⟩ (fun k hk => by cases hk) (fun _ _ h => h) (fun j u h => q1.sup j u h)
    (fun j B hj hB => by
      rw [getH_new, if_neg (Ne.symm hj)] at hB
      obtain ⟨u, hu⟩ := q1.some_of hB
      exact ⟨hB, u, hu, fun _ _ _ e => by cases e⟩)
    (fun B u b hB hoB hu hb => by
      refine .inr ⟨fun hs => hs.2 id _ _ hh' rfl hu hb, fun j B' u' hj hB' ho' hu' hb' => ?_⟩
      rw [getH_new, if_neg (Ne.symm hj)] at hB'
      exact hj (q1.inj j id B' _ u' _ b hB' hh' ho' rfl hu' hu hb' hb))
    (fun B hB hS hsame => by
      rw [getH_new, if_pos rfl] at hB; injection hB with hB; subst hB
      obtain ⟨b, us, e1, e2, e3, e4, e5⟩ := q1.blk _ _ hh'
      refine ⟨b, us, e1, e2, e3, e4, fun j hj => ?_⟩
      have hj0 : j = 0 := by simp only [List.length_cons, List.length_nil] at hj; omega
      subst hj0
      have h5 := e5 0 (by simp)
      refine ⟨?_, h5.2⟩
      have := lit_inv h5.1
      rw [this]
      exact .own q3)
  exact ⟨ρ', p1, q2.mono p2 p3 (fun _ _ h => h), fun j hj => q4 j (by have := Nat.le_of_ble_eq_true hn0; omega)⟩
end
end Go.Proofs.Ytfdomanbdfekhaa
