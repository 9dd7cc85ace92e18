/-
  A VALUE CALCULUS OVER THE MODEL, part 23: to stop ahead of a region. Plain lemmas, over any program.
-/
import Derived.Test.YtkineiemgjandaaAbs22
set_option linter.unusedVariables false
set_option linter.unusedSimpArgs false
set_option linter.unusedVariables false
namespace Go.Proofs.Ytkineiemgjandaa
open Go.RowKit
/-- does the code begin with region n? -/
def atR (n : Nat) : Code → Bool
  | .region i _ _ => Nat.beq i n
  | .seq a _ => atR n a
  | _ => false
theorem r_seqU {P : Program} {n0 : Nat} {st : St} (n : Nat) {x y : Code} {Q : Exit → St → Prop} (hn : atR n x = false) (h : Run P n0 x st (ThenQ (fun st' => Run P n0 y st' Q) Q)) : Run P n0 (.seq x y) st Q := r_seq h
section
variable {P : Program} {n0 : Nat} {o : Oper} {ops rest : List Oper} {env : List (Nat × V)} {heap : List (Nat × Option Blk)} {next nt : Nat} {Q : St → Prop}
/-- two truths compared -/
theorem s_bne {T yt : TypeId} {x y : Operand} {a b : Bool} {d : Nat} (ho : o.op = .binOp .neq T x y yt := by rfl) (hx : opE env x = some (.lit (.bool a)) := by rfl) (hy : opE env y = some (.lit (.bool b)) := by rfl) (hT : P.underlying T = some .bool := by rfl) (hg : guardV env ops o.guard = some true := by rfl) (hd : o.dst = some d := by rfl) (hdn : Nat.blt d nt = true := by rfl)
    (ht : ¬ a = b → RunL P n0 ops.toArray rest ⟨(d, .lit (.bool true)) :: env, heap, next, nt⟩ Q) (hf : a = b → RunL P n0 ops.toArray rest ⟨(d, .lit (.bool false)) :: env, heap, next, nt⟩ Q) : RunL P n0 ops.toArray (o :: rest) ⟨env, heap, next, nt⟩ Q := by
  have h := q_bool_neq (P := P) (G := []) (st := ⟨env, heap, next, nt⟩) ho hx hy hT
  by_cases hp : a = b
  · rw [show decide (¬ a = b) = false from by simp [hp]] at h; exact x_q hg hd hdn h (hf hp)
  · rw [show decide (¬ a = b) = true from by simp [hp]] at h; exact x_q hg hd hdn h (ht hp)
end
section
variable {P : Program} {o : Oper} {nt b0 k k' : Nat} {ops : List Oper} {W : Nat → Nat → Bool} {rest : List Oper} {env : List (Nat × V)} {heap : List (Nat × Option Blk)} {Q : St → Prop}
theorem p_bne {T yt : TypeId} {x y : Operand} {a b : Bool} {d : Nat} (ho : o.op = .binOp .neq T x y yt := by rfl) (hx : opE (lk (looks ops o) env) x = some (.lit (.bool a)) := by rfl) (hy : opE (lk (looks ops o) env) y = some (.lit (.bool b)) := by rfl) (hT : P.underlying T = some .bool := by rfl) (hg : guardV (lk (looks ops o) env) ops o.guard = some true := by rfl) (hd : o.dst = some d := by rfl) (hdn : Nat.blt d nt = true := by rfl) (hk : k + 1 = k' := by (simp only [Nat.reduceAdd]; rfl)) (hb : Nat.ble b0 k = true := by rfl)
    (ht : ¬ a = b → PL P nt b0 ops W k' rest ((d, .lit (.bool true)) :: env) heap Q) (hf : a = b → PL P nt b0 ops W k' rest ((d, .lit (.bool false)) :: env) heap Q) : PL P nt b0 ops W k (o :: rest) env heap Q := by
  have h := fun N => q_bool_neq (P := P) (G := []) (st := ⟨lk (looks ops o) env, [], N, nt⟩) ho hx hy hT
  by_cases hp : a = b
  · simp only [show decide (¬ a = b) = false from by simp [hp]] at h; exact y_q hg hd hdn hb hk h (hf hp)
  · simp only [show decide (¬ a = b) = true from by simp [hp]] at h; exact y_q hg hd hdn hb hk h (ht hp)
end
end Go.Proofs.Ytkineiemgjandaa
