/- A VALUE CALCULUS OVER THE MODEL: is a pointer nil? Plain lemmas, over any program. -/
import Derived.Test.YtfdomanbdfekhaaAbsE
import Derived.Laws.Pointers
set_option linter.unusedSimpArgs false
set_option linter.unusedVariables false
namespace Go.Proofs.Ytfdomanbdfekhaa
open Go.RowKit
section
variable {P : Program} {G : List Nat} {o : Oper} {st : St}

theorem q_nil_eql {T yt : TypeId} {x y : Operand} {id i s j : Nat} (ho : o.op = .binOp .eql T x y yt) (hx : opE st.env x = some (.ptr id i s j)) (hy : opE st.env y = some (.lit (.pointer none))) (hT : P.underlying T = some (.pointer (P.pointee T))) :
    QStep P G o st (.lit (.bool false)) :=
  q_of_run fun F base w0 ρ a w hH hE => by
    obtain ⟨r, b, h1, h2, h3⟩ := ptr_inv (opE_sound hE hx)
    have h4 := lit_inv (opE_sound hE hy)
    refine ⟨_, .pure (.lit _ rfl), fun w' => ?_⟩
    unfold execOp; rw [ho]; simp only []; rw [h3, h4]
    simp [eqGuard, binOp, Sem.run_bind, Sem.run_pure, run_equal_pointer_nil w' T _ hT]
theorem q_nil_neq {T yt : TypeId} {x y : Operand} {id i s j : Nat} (ho : o.op = .binOp .neq T x y yt) (hx : opE st.env x = some (.ptr id i s j)) (hy : opE st.env y = some (.lit (.pointer none))) (hT : P.underlying T = some (.pointer (P.pointee T))) :
    QStep P G o st (.lit (.bool true)) :=
  q_of_run fun F base w0 ρ a w hH hE => by
    obtain ⟨r, b, h1, h2, h3⟩ := ptr_inv (opE_sound hE hx)
    have h4 := lit_inv (opE_sound hE hy)
    refine ⟨_, .pure (.lit _ rfl), fun w' => ?_⟩
    unfold execOp; rw [ho]; simp only []; rw [h3, h4]
    simp [eqGuard, binOp, Sem.run_bind, Sem.run_pure, run_equal_pointer_nil w' T _ hT]
theorem q_nil2_eql {T yt : TypeId} {x y : Operand} (ho : o.op = .binOp .eql T x y yt) (hx : opE st.env x = some (.lit (.pointer none))) (hy : opE st.env y = some (.lit (.pointer none))) (hT : P.underlying T = some (.pointer (P.pointee T))) :
    QStep P G o st (.lit (.bool true)) := q_bin ho hx hy (fun w => by
      simp [eqGuard, binOp, Sem.run_bind, Sem.run_pure, run_equal_pointer_nil w T _ hT]) rfl
theorem q_nil2_neq {T yt : TypeId} {x y : Operand} (ho : o.op = .binOp .neq T x y yt) (hx : opE st.env x = some (.lit (.pointer none))) (hy : opE st.env y = some (.lit (.pointer none))) (hT : P.underlying T = some (.pointer (P.pointee T))) :
    QStep P G o st (.lit (.bool false)) := q_bin ho hx hy (fun w => by
      simp [eqGuard, binOp, Sem.run_bind, Sem.run_pure, run_equal_pointer_nil w T _ hT]) rfl
/-- nil slices as data -/
theorem q_wk {v v' : V} (h : QStep P G o st v) (hw : Wk v v') : QStep P G o st v' := fun F base w0 ρ a w hH hE hb => by
  obtain ⟨u, h1, h2⟩ := h F base w0 ρ a w hH hE hb
  exact ⟨u, hw.rel h1, h2⟩
/-- cells that may be read as another: a nil slice as data -/
def WkC (v v' : V) : Prop := v = v' ∨ (v = .lit (.slice none 0 0) ∧ v' = .ro [])
theorem WkC.rel {S : Nat → Prop} {w : World} {v v' : V} {u : Value} (h : WkC v v') (hr : PRel S w v u) : PRel S w v' u := by
  rcases h with rfl | ⟨rfl, rfl⟩
  · exact hr
  · cases hr
    exact .ro [] none 0 1 0 0 (fun _ _ => undef) (by simp) (by unfold maxLen; omega) (by omega) (fun h => by simp at h) (fun i hi => by simp at hi) (fun i j hi => by simp at hi) (fun i j hi => by simp at hi)
/-- a row of the call's own, its nil cells read as data -/
theorem less_rowW {id e s : Nat} {n0 : Nat} {l l' : List (List V)} (hh : getH st.heap id = some (.row e s l)) (hlen : l'.length = l.length) (hL : ∀ i, i < l.length → (eAt l' i).length = (eAt l i).length)
    (hw : ∀ i j, i < l.length → j < (eAt l i).length → WkC (cAt (eAt l i) j) (cAt (eAt l' i) j)) : Less P n0 st { st with heap := (id, some (.row e s l')) :: st.heap } := fun F base w0 ρ a w hH hE => by
  obtain ⟨h0, v, xs, h1, h2, h3, h4⟩ := hH.blk _ _ hh
  have hS : ∀ b, Stab F ρ st.heap b → Stab F ρ ((id, some (.row e s l')) :: st.heap) b := fun b h => ⟨h.1, fun j B u hB ho hu => by
    rw [getH_new] at hB
    split at hB
    · rename_i e1; subst e1; exact h.2 _ _ u hh rfl hu
    · exact h.2 j B u hB ho hu⟩
  refine ⟨ρ, ⟨⟨hH.below, hH.hbase, hH.sup, fun i j B B' u u' b hB hB' ho ho' hu hu' hb hb' => ?_, fun j B hB => ?_⟩, hH.hF⟩, hE.mono (Same.refl _ _) (fun b h _ => hS b h) (fun _ _ h => h), fun _ _ => rfl⟩
  · rw [getH_new] at hB hB'
    split at hB
    · rename_i e1; subst e1
      split at hB'
      · rename_i e2; first | exact e2 | exact e2.symm
      · exact hH.inj _ j _ B' u u' b hh hB' rfl ho' hu hu' hb hb'
    · split at hB'
      · rename_i e2; subst e2
        exact hH.inj i _ B _ u u' b hB hh ho rfl hu hu' hb hb'
      · exact hH.inj i j B B' u u' b hB hB' ho ho' hu hu' hb hb'
  · rw [getH_new] at hB
    split at hB
    · rename_i e1; subst e1
      injection hB with hB; subst hB
      refine ⟨h0, v, xs, h1, ⟨by rw [hlen]; exact h2.1, h2.2⟩, fun i hi => by rw [hlen] at hi; rw [hL i hi]; exact h3 i hi, fun i k hi hk => ?_⟩
      rw [hlen] at hi
      obtain ⟨u, hu, hp, ho⟩ := h4 i k hi hk
      exact ⟨u, hu, ((hw i k hi (by rw [h3 i hi]; exact hk)).rel hp).mono (Same.refl _ _) (fun b h _ => hS b h), ho⟩
    · exact (hH.blk j B hB).mono (Same.refl _ _) (fun b h _ => hS b h) (fun _ _ h => h) (fun _ _ _ _ _ _ => rfl)
theorem less_rowS {id e s : Nat} {n0 : Nat} {l : List (List V)} {c c' : List V} (hh : getH st.heap id = some (.row e s (l ++ [c]))) (hc : ∀ j, j < c.length → WkC (cAt c j) (cAt c' j)) (hcl : c'.length = c.length) : Less P n0 st { st with heap := (id, some (.row e s (l ++ [c']))) :: st.heap } := by
  refine less_rowW hh (by simp) (fun i hi => ?_) (fun i j hi hj => ?_)
  · rw [eAt_append, eAt_append]
    split
    · rfl
    · have : i - l.length = 0 := by simp at hi; omega
      rw [this]; exact hcl
  · rw [eAt_append] at hj ⊢
    rw [eAt_append]
    split
    · exact .inl rfl
    · rename_i h
      have : i - l.length = 0 := by simp at hi; omega
      rw [this] at hj ⊢
      rw [if_neg h] at hj
      exact hc j hj
end
end Go.Proofs.Ytfdomanbdfekhaa
