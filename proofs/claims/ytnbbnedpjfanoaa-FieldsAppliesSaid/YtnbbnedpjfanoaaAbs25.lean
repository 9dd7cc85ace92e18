/-
  A VALUE CALCULUS OVER THE MODEL, part 25: the least of four numbers. Plain lemmas, over any program.
-/
import Derived.Test.YtnbbnedpjfanoaaAbs24
set_option linter.unusedVariables false
set_option linter.unusedSimpArgs false
set_option linter.unusedVariables false
namespace Go.Proofs.Ytnbbnedpjfanoaa
open Go.RowKit
section
variable {P : Program} {G : List Nat} {o : Oper} {st : St}
theorem q_min4 {x y z u : Operand} {ts : Array TypeId} {k : IntKind} {a b c d : Int} (ho : o.op = .call { callee := .builtin .min, args := #[x, y, z, u], argTypes := ts }) (hx : opE st.env x = some (.lit (.int k a))) (hy : opE st.env y = some (.lit (.int k b)))
    (hz : opE st.env z = some (.lit (.int k c))) (hu : opE st.env u = some (.lit (.int k d))) : QStep P G o st (.lit (.int k (min (min a b) (min c d)))) :=
  q_of_run fun F base w0 ρ a' w hH hE => by
    refine ⟨_, .pure (.lit _ rfl), fun w' => ?_⟩
    unfold execOp; rw [ho]
    simp only [resolve, invoke, Sem.run_bind, Sem.run_pure, Result.andThen_ok, List.map_toArray, List.map_cons, List.map_nil]
    rw [lit_inv (opE_sound hE hx), lit_inv (opE_sound hE hy), lit_inv (opE_sound hE hz), lit_inv (opE_sound hE hu)]
    have e2 : ∀ m n : Int, (if n < m then n else m) = min m n := fun m n => by split <;> omega
    have e : min (min a b) (min c d) = min (min (min a b) c) d := by omega
    rw [e]
    simp [builtin, Builtin.min_, Builtin.min2, Sem.run_pure, e2, Sem.run_bind]
end
end Go.Proofs.Ytnbbnedpjfanoaa
