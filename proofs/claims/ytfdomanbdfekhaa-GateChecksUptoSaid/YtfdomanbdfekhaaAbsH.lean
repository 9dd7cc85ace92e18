/- A VALUE CALCULUS OVER THE MODEL: arrays ==, of an array and itself. Plain lemmas, over any program. -/
import Derived.Test.YtfdomanbdfekhaaAbsG
import Derived.DeepKeys
set_option linter.unusedSimpArgs false
set_option linter.unusedVariables false
namespace Go.Proofs.Ytfdomanbdfekhaa
open Go.RowKit
theorem lits_inv {ρ : Nat → Option Value} {S : Nat → Prop} {w : World} {us : List Value} {u : Value} (h : VRel ρ S w (.agg (us.map V.lit)) u) : u = .agg us.toArray := by
  obtain ⟨vs, rfl, e2, e3⟩ := agg_inv h
  congr 1
  rw [List.length_map] at e2 e3
  refine Array.ext (by simpa using e2) (fun i h1 h2 => ?_)
  have h3 := e3 i (by omega)
  have e : cAt (us.map V.lit) i = .lit (us[i]'(by omega)) := by unfold cAt; rw [List.getD_eq_getElem?_getD, List.getElem?_map, List.getElem?_eq_getElem (by omega)]; rfl
  rw [e] at h3
  have h4 := lit_inv h3
  rw [Array.getD_eq_getD_getElem?, Array.getElem?_eq_getElem h1] at h4
  simpa using h4
theorem q_arr_refl {P : Program} {G : List Nat} {o : Oper} {st : St} {T yt : TypeId} {x y : Operand} {us : List Value} {la : List Lit} (ho : o.op = .binOp .eql T x y yt) (hx : opE st.env x = some (.agg (us.map V.lit))) (hy : opE st.env y = some (.agg (us.map V.lit)))
    (hm : P.eqGuardType P.depth T = false) (hk : P.keyTypeAt 5 T = true) (hf : (Value.agg us.toArray).formed P T = true) (hl : P.keyLits 5 T us = some la) : QStep P G o st (.lit (.bool true)) :=
  q_of_run fun F base w0 ρ a w hH hE => by
    refine ⟨_, .pure (.lit _ rfl), fun w' => ?_⟩
    have e1 := lits_inv (opE_sound hE hx)
    have e2 := lits_inv (opE_sound hE hy)
    unfold execOp; rw [ho]; simp only []; rw [e1, e2]
    have h1 := run_eqGuard_agg (P := P) w' .eql T x y us.toArray us.toArray hm
    have h2 := run_eql_struct (P := P) w' T us.toArray us.toArray
    obtain ⟨r, hr, hiff⟩ := run_equalIn_deep 9995 5 T hk w' 5 5 (.agg us.toArray) (.agg us.toArray) la la hf hf (by simpa [Value.cells] using hl) (by simpa [Value.cells] using hl)
    rw [show (10000 : Nat) = 9995 + 5 from rfl, hr, hiff.2 rfl] at h2
    simp only [Sem.run_bind, h1, Result.andThen_ok, h2, Sem.run_pure]
end Go.Proofs.Ytfdomanbdfekhaa
