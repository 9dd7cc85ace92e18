/-
  A VALUE CALCULUS OVER THE MODEL, part 23: to stop ahead of a region. Plain lemmas, over any program.
-/
import Derived.Test.YtnbbnedpjfanoaaAbs22
set_option linter.unusedVariables false
set_option linter.unusedSimpArgs false
set_option linter.unusedVariables false
namespace Go.Proofs.Ytnbbnedpjfanoaa
open Go.RowKit
/-- does the code begin with region n? -/
def atR (n : Nat) : Code → Bool
  | .region i _ _ => Nat.beq i n
  | .seq a _ => atR n a
  | .block _ a => atR n a
  | .loop a => atR n a
  | _ => false
theorem r_seqU {P : Program} {n0 : Nat} {st : St} (n : Nat) {x y : Code} {Q : Exit → St → Prop} (hn : atR n x = false) (h : Run P n0 x st (ThenQ (fun st' => Run P n0 y st' Q) Q)) : Run P n0 (.seq x y) st Q := r_seq h
section
variable {P : Program} {n0 : Nat} {o : Oper} {ops rest : List Oper} {env : List (Nat × V)} {heap : List (Nat × Option Blk)} {next nt : Nat} {Q : St → Prop}
/-- two truths compared -/
theorem s_bne {T yt : TypeId} {x y : Operand} {a b : Bool} {d : Nat} (ho : o.op = .binOp .neq T x y yt := by rfl) (hx : opE env x = some (.lit (.bool a)) := by rfl) (hy : opE env y = some (.lit (.bool b)) := by rfl) (hT : P.underlying T = some .bool := by rfl) (hg : guardV env ops o.guard = some true := by rfl) (hd : o.dst = some d := by rfl) (hdn : Nat.blt d nt = true := by rfl)
    (ht : ¬ a = b → RunL P n0 ops.toArray rest ⟨(d, .lit (.bool true)) :: env, heap, next, nt⟩ Q) (hf : a = b → RunL P n0 ops.toArray rest ⟨(d, .lit (.bool false)) :: env, heap, next, nt⟩ Q) : RunL P n0 ops.toArray (o :: rest) ⟨env, heap, next, nt⟩ Q := by
  have h := q_bool_neq (P := P) (G := []) (st := ⟨env, heap, next, nt⟩) ho hx hy hT
  by_cases hp : a = b
  · rw [show decide (¬ a = b) = false from by simp [hp]] at h; exact x_q hg hd hdn h (hf hp)
  · rw [show decide (¬ a = b) = true from by simp [hp]] at h; exact x_q hg hd hdn h (ht hp)
end
section
variable {P : Program} {o : Oper} {nt b0 k k' : Nat} {ops : List Oper} {W : Nat → Nat → Bool} {rest : List Oper} {env : List (Nat × V)} {heap : List (Nat × Option Blk)} {Q : St → Prop}
theorem p_bne {T yt : TypeId} {x y : Operand} {a b : Bool} {d : Nat} (ho : o.op = .binOp .neq T x y yt := by rfl) (hx : opE (lk (looks ops o) env) x = some (.lit (.bool a)) := by rfl) (hy : opE (lk (looks ops o) env) y = some (.lit (.bool b)) := by rfl) (hT : P.underlying T = some .bool := by rfl) (hg : guardV (lk (looks ops o) env) ops o.guard = some true := by rfl) (hd : o.dst = some d := by rfl) (hdn : Nat.blt d nt = true := by rfl) (hk : k + 1 = k' := by (simp only [Nat.reduceAdd]; rfl)) (hb : Nat.ble b0 k = true := by rfl)
    (ht : ¬ a = b → PL P nt b0 ops W k' rest ((d, .lit (.bool true)) :: env) heap Q) (hf : a = b → PL P nt b0 ops W k' rest ((d, .lit (.bool false)) :: env) heap Q) : PL P nt b0 ops W k (o :: rest) env heap Q := by
  have h := fun N => q_bool_neq (P := P) (G := []) (st := ⟨lk (looks ops o) env, [], N, nt⟩) ho hx hy hT
  by_cases hp : a = b
  · simp only [show decide (¬ a = b) = false from by simp [hp]] at h; exact y_q hg hd hdn hb hk h (hf hp)
  · simp only [show decide (¬ a = b) = true from by simp [hp]] at h; exact y_q hg hd hdn hb hk h (ht hp)
end
section
variable {P : Program} {n0 : Nat} {o : Oper} {ops rest : List Oper} {env : List (Nat × V)} {heap : List (Nat × Option Blk)} {next nt : Nat} {Q : St → Prop}
/-- a slice literal of the call's own, as r -/
theorem s_rowR {t e len d s : Nat} {parts : Array (Nat × Operand)} {ps : List (Nat × List V)} {l l' r : List (List V)} (hr : l' = r) (ho : o.op = .buildSlice t len parts := by rfl) (ht : P.underlying t = some (.slice e) := by rfl) (hs : (sizeT P e).getD 0 = s := by rfl) (hp : partsE env parts.toList = some ps := by rfl) (hl : sliceV P e len ps = some l := by rfl) (hN : NormL l l' := by repeat' (first | exact NormL.nil | apply NormL.cons | exact Norm.nil | apply Norm.cons)) (hpu : l'.all (fun cs => cs.all pureV) = true := by rfl) (hg : guardV env ops o.guard = some true := by rfl) (hd : o.dst = some d := by rfl) (hdn : Nat.blt d nt = true := by rfl) (hn0 : Nat.ble n0 next = true := by rfl) (hlen : Nat.blt 0 len = true := by rfl) (hsm : Nat.ble (len * (sizeT P e).getD 0) 16777216 = true := by rfl)
    (h : RunL P n0 ops.toArray rest ⟨(d, .own next) :: env, (next, some (.row e s r)) :: heap, next + 1, nt⟩ Q) : RunL P n0 ops.toArray (o :: rest) ⟨env, heap, next, nt⟩ Q := by
  subst hr
  exact s_row ho ht hs hp hl hN hpu hg hd hdn hn0 hlen hsm h
/-- a slice literal as data, as r -/
theorem s_litR {t e len d : Nat} {parts : Array (Nat × Operand)} {ps : List (Nat × List V)} {l l' r : List (List V)} (hr : l' = r) (ho : o.op = .buildSlice t len parts := by rfl) (ht : P.underlying t = some (.slice e) := by rfl) (hp : partsE env parts.toList = some ps := by rfl) (hl : sliceV P e len ps = some l := by rfl) (hN : NormL l l' := by repeat' (first | exact NormL.nil | apply NormL.cons | exact Norm.nil | apply Norm.cons)) (hpu : l'.all (fun cs => cs.all pureV) = true := by rfl) (hg : guardV env ops o.guard = some true := by rfl) (hd : o.dst = some d := by rfl) (hdn : Nat.blt d nt = true := by rfl) (hlen : Nat.blt 0 len = true := by rfl) (hsm : Nat.ble (len * (sizeT P e).getD 0) 16777216 = true := by rfl)
    (h : RunL P n0 ops.toArray rest ⟨(d, .ro r) :: env, heap, next, nt⟩ Q) : RunL P n0 ops.toArray (o :: rest) ⟨env, heap, next, nt⟩ Q := by
  subst hr
  exact s_lit ho ht hp hl hN hpu hg hd hdn hlen hsm h
end
section
variable {P : Program} {o : Oper} {nt b0 k k' : Nat} {ops : List Oper} {W : Nat → Nat → Bool} {rest : List Oper} {env : List (Nat × V)} {heap : List (Nat × Option Blk)} {Q : St → Prop}
theorem p_slice_str {t d : Nat} {x : Operand} {lo hi : Option Operand} {l r : List UInt8} {a b : Option Int} (m n : Nat) (ha : a.getD 0 = (m : Int)) (hb' : b.getD l.length = (n : Int)) (hmn : m ≤ n) (hn : n ≤ l.length) (hr : (l.take n).drop m = r)
    (ho : o.op = .slice t x lo hi none := by rfl) (hx : opE (lk (looks ops o) env) x = some (.lit (.string (strB l))) := by rfl) (hlo : boundE (lk (looks ops o) env) lo = some a := by rfl) (hhi : boundE (lk (looks ops o) env) hi = some b := by rfl) (ht : P.underlying t = some .string := by rfl)
    (hg : guardV (lk (looks ops o) env) ops o.guard = some true := by rfl) (hd : o.dst = some d := by rfl) (hdn : Nat.blt d nt = true := by rfl) (hk : k + 1 = k' := by (simp only [Nat.reduceAdd]; rfl)) (hb : Nat.ble b0 k = true := by rfl) (h : PL P nt b0 ops W k' rest ((d, .lit (.string (strB r))) :: env) heap Q) : PL P nt b0 ops W k (o :: rest) env heap Q := by
  subst hr
  exact y_q hg hd hdn hb hk (fun N => q_slice_str ho hx hlo hhi ht ha hb' hmn hn) h
end
end Go.Proofs.Ytnbbnedpjfanoaa
