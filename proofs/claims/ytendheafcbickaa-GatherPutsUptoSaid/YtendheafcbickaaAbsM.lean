/- A VALUE CALCULUS OVER THE MODEL: rows whose cells may be the call's own, in regions in the order of the text; look-ups in maps in regions that draw their order. Plain lemmas, over any program. -/
import Derived.Test.YtendheafcbickaaAbsK
set_option linter.unusedSimpArgs false
set_option linter.unusedVariables false
namespace Go.Proofs.Ytendheafcbickaa
open Go.RowKit
section
variable {P : Program} {o : Oper} {n0 : Nat} {ops : List Oper} {rest : List Oper} {env : List (Nat × V)} {heap : List (Nat × Option Blk)} {next nt : Nat} {Q : St → Prop}
theorem s_litx {t e len d s : Nat} {parts : Array (Nat × Operand)} {ps : List (Nat × List V)} {l l' : List (List V)} (ho : o.op = .buildSlice t len parts := by rfl) (ht : P.underlying t = some (.slice e) := by rfl) (hs : (sizeT P e).getD 0 = s := by rfl) (hp : partsE env parts.toList = some ps := by rfl) (hl : sliceV P e len ps = some l := by rfl)
    (hN : NormL l l' := by repeat' (first | exact NormL.nil | apply NormL.cons | exact Norm.nil | apply Norm.cons)) (hg : guardV env ops o.guard = some true := by rfl) (hd : o.dst = some d := by rfl) (hdn : Nat.blt d nt = true := by rfl) (hlen : Nat.blt 0 len = true := by rfl) (hsm : Nat.ble (len * (sizeT P e).getD 0) 16777216 = true := by rfl) (hn0 : Nat.ble n0 next = true := by rfl)
    (h : RunL P n0 ops.toArray rest ⟨(d, .own next) :: env, (next, some (.rox e s l')) :: heap, next + 1, nt⟩ Q) : RunL P n0 ops.toArray (o :: rest) ⟨env, heap, next, nt⟩ Q := by
  have e := hN.eq
  subst e
  subst hs
  exact l_g hg (gstep_of_at (st := ⟨env, heap, next, nt⟩) (Nat.le_of_ble_eq_true hn0) (a_litx (st := ⟨env, heap, next + 1, nt⟩) ho hd hdn ht hp hl hlen hsm)) h
theorem s_appx {x y : Operand} {t e s by_ id id2 d : Nat} {l m r : List (List V)} (hr : l ++ m = r) (hby : (l.length + m.length) * by_ ≤ 140737488355328) (h63 : l.length + m.length ≤ 9223372036854775807)
    (ho : o.op = .call { callee := .builtin .append, args := #[x, y], argTypes := #[t, t] } := by rfl) (hx : opE env x = some (.own id) := by rfl) (hh : getH heap id = some (.rox e s l) := by rfl) (hy : opE env y = some (.own id2) := by rfl) (hh2 : getH heap id2 = some (.rox e s m) := by rfl)
    (ht : P.underlying t = some (.slice e) := by rfl) (hs : sizeT P e = some s := by rfl) (hb : bytesT P e = some by_ := by rfl) (hz : ∃ z, zeroT P e = some z ∧ z.length = s := by exact ⟨_, rfl, rfl⟩) (hg : guardV env ops o.guard = some true := by rfl) (hd : o.dst = some d := by rfl) (hdn : Nat.blt d nt = true := by rfl) (hn0 : Nat.ble n0 next = true := by rfl)
    (h : RunL P n0 ops.toArray rest ⟨(d, .own next) :: env, (next, some (.rox e s r)) :: (id, none) :: heap, next + 1, nt⟩ Q) : RunL P n0 ops.toArray (o :: rest) ⟨env, heap, next, nt⟩ Q := by
  subst hr
  exact l_g hg (gstep_of_at (st := ⟨env, heap, next, nt⟩) (Nat.le_of_ble_eq_true hn0) (a_appx (st := ⟨env, heap, next + 1, nt⟩) ho hd hdn hx hh hy hh2 ht hs hb hz hby h63)) h
end
section
variable {P : Program} {o : Oper} {nt b0 k k' : Nat} {ops : List Oper} {W : Nat → Nat → Bool} {rest : List Oper} {env : List (Nat × V)} {heap : List (Nat × Option Blk)} {Q : St → Prop}
theorem p_lookF {T et id d : Nat} {m x : Operand} {q : Option IntKind} {key z r : Value} {es : List (Value × Value)} (hr : (mlook key es).getD z = r) (ho : o.op = .lookup T m x false := by rfl) (hm : opE (lk (looks ops o) env) m = some (.own id) := by rfl) (hh : getH heap id = some (.fmap q es) := by rfl)
    (hx : opE (lk (looks ops o) env) x = some (.lit key) := by rfl) (hq : mapQ P T = some (q, et) := by rfl) (hk : keyOk q key = true := by rfl) (hz : zero1 P et = some z := by rfl) (hg : guardV (lk (looks ops o) env) ops o.guard = some true := by rfl) (hd : o.dst = some d := by rfl) (hdn : Nat.blt d nt = true := by rfl) (hk' : k + 1 = k' := by (simp only [Nat.reduceAdd]; rfl)) (hb : Nat.ble b0 k = true := by rfl) (hv : vis ops W b0 (k - b0) id = true := by kernel_rfl)
    (h : PL P nt b0 ops W k' rest ((d, .lit r) :: env) heap Q) : PL P nt b0 ops W k (o :: rest) env heap Q := by
  obtain ⟨kt, h1, h2⟩ := mapQ_spec hq
  subst hr
  exact y_h hg hd hdn hb hk' hh hv (fun N => by simpa using q_lookF (st := ⟨lk (looks ops o) env, [(id, some (.fmap q es))], N, nt⟩) (G := []) ho hm (by simp [getH]) hx h1 h2 hk hz) h
end

/-! ### A column of the call's own under other numbers -/
/-! ### Ends that hand such rows back -/
section
variable {P : Program} {n0 : Nat}
def EndsMX (P : Program) (fn : Func) (k0 : Nat) (r : V) (h1 : List (Nat × Option Blk)) (k1 : Nat) (e : Exit) (st : St) : Prop :=
  (e = .ret ∨ e = .normal) ∧ ∃ v r' L, resV P st fn.results.toList = some v ∧ okP k0 k1 L = true ∧ sv (invL L) st.heap v = some r' ∧ Wk r' r ∧ coverX L st.heap h1
end
end Go.Proofs.Ytendheafcbickaa
