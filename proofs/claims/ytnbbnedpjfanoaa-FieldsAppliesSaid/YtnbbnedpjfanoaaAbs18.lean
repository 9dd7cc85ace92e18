/-
  A VALUE CALCULUS OVER THE MODEL, part 18: struct == in regions that draw their order. Plain lemmas, over any program.
-/
import Derived.Test.YtnbbnedpjfanoaaAbs17
set_option linter.unusedVariables false
set_option linter.unusedSimpArgs false
set_option linter.unusedVariables false
namespace Go.Proofs.Ytnbbnedpjfanoaa
open Go.RowKit
section
variable {P : Program} {o : Oper} {nt b0 k k' : Nat} {ops : List Oper} {W : Nat → Nat → Bool} {rest : List Oper} {env : List (Nat × V)} {heap : List (Nat × Option Blk)} {Q : St → Prop}
theorem p_eqs {T yt : TypeId} {x y : Operand} {xs ys : List V} {fs : Array Field} {p : Prop} {d : Nat} (ho : o.op = .binOp .eql T x y yt := by rfl) (hx : opE (lk (looks ops o) env) x = some (.agg xs) := by rfl) (hy : opE (lk (looks ops o) env) y = some (.agg ys) := by rfl) (hT : P.underlying T = some (.struct fs) := by rfl) (hp : eqP P xs ys fs.toList = some p := by rfl) (hg : guardV (lk (looks ops o) env) ops o.guard = some true := by rfl) (hd : o.dst = some d := by rfl) (hdn : Nat.blt d nt = true := by rfl)
    (hn : fs.toList.all (fun f => !(f.name == "_")) = true := by kernel_rfl) (hs : P.stoodInHeld T = false := by kernel_rfl) (hm : P.eqGuardType P.depth T = false := by kernel_rfl) (hk : k + 1 = k' := by (simp only [Nat.reduceAdd]; rfl)) (hb : Nat.ble b0 k = true := by rfl)
    (ht : p → PL P nt b0 ops W k' rest ((d, .lit (.bool true)) :: env) heap Q) (hf : ¬ p → PL P nt b0 ops W k' rest ((d, .lit (.bool false)) :: env) heap Q) : PL P nt b0 ops W k (o :: rest) env heap Q := by
  have h := fun N => q_struct_eql (P := P) (G := []) (st := ⟨lk (looks ops o) env, [], N, nt⟩) ho hx hy hT hp hn hs hm
  by_cases hp : p
  · exact y_q hg hd hdn hb hk (fun N => (h N).1 hp) (ht hp)
  · exact y_q hg hd hdn hb hk (fun N => (h N).2 hp) (hf hp)
end
end Go.Proofs.Ytnbbnedpjfanoaa
