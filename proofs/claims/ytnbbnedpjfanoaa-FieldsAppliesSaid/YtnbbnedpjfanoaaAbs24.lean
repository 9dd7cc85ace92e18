/-
  A VALUE CALCULUS OVER THE MODEL, part 24: a call that is handed memory, where the order is drawn. Plain lemmas, over any program.
-/
import Derived.Test.YtnbbnedpjfanoaaAbs23
set_option linter.unusedVariables false
set_option linter.unusedSimpArgs false
set_option linter.unusedVariables false
namespace Go.Proofs.Ytnbbnedpjfanoaa
open Go.RowKit
theorem coverC_mono {m : Nat → Nat} {k0 : Nat} {heap heap' : List (Nat × Option Blk)} (h : ∀ id B, getH heap id = some B → getH heap' id = some B) : ∀ {e : List (Nat × Option Blk)}, coverC m k0 heap e → coverC m k0 heap' e
  | [], _ => trivial
  | (_, none) :: r, hc => coverC_mono (e := r) h hc
  | (_, some _) :: r, hc => ⟨⟨hc.1.1, h _ _ hc.1.2⟩, coverC_mono (e := r) h hc.2⟩
/-- what stands behind the numbers M -/
def pickH (heap : List (Nat × Option Blk)) : List Nat → List (Nat × Option Blk)
  | [] => []
  | id :: M => (id, getH heap id) :: pickH heap M
theorem pickH_get {heap : List (Nat × Option Blk)} : ∀ {M : List Nat} {id : Nat} {B : Blk}, getH (pickH heap M) id = some B → memI M id = true ∧ getH heap id = some B
  | [], id, B, h => by simp [pickH, getH] at h
  | a :: M, id, B, h => by
    unfold pickH at h
    rw [getH_new] at h
    split at h
    · rename_i e
      subst e
      exact ⟨by simp [memI], h⟩
    · have := pickH_get (M := M) h
      exact ⟨by simp [memI, this.1], this.2⟩
theorem inH_keys {M : List Nat} {k : Nat} : ∀ {H : List (Nat × Option Blk)}, H.all (fun p => Nat.beq p.1 k || memI M p.1) = true → ∀ id, inH H id = true → id = k ∨ memI M id = true
  | [], _, id, h => by cases h
  | p :: H, ha, id, h => by
    rw [List.all_cons, Bool.and_eq_true] at ha
    unfold inH at h
    cases hb : Nat.beq p.1 id with
    | true =>
      have e := Nat.eq_of_beq_eq_true hb
      subst e
      have h1 := ha.1
      rw [Bool.or_eq_true] at h1
      rcases h1 with h1 | h1
      · exact .inl (Nat.eq_of_beq_eq_true h1)
      · exact .inr h1
    | false =>
      rw [hb] at h
      exact inH_keys (H := H) ha.2 id h
theorem all_memI {M : List Nat} {p : Nat → Bool} (h : M.all p = true) {id : Nat} (hm : memI M id = true) : p id = true := by
  exact List.all_eq_true.1 h id (memI_to hm)
section
variable {P : Program} {o : Oper} {nt b0 k k' : Nat} {ops : List Oper} {W : Nat → Nat → Bool} {rest : List Oper} {env : List (Nat × V)} {heap : List (Nat × Option Blk)} {Q : St → Prop}
/-- a call that is handed the memory of the numbers M, where the order is drawn -/
theorem p_callM {f : FuncId} {xs : Array Operand} {ts : Array TypeId} {vs vs' : List V} {r r' : V} {h0 h1 H heap' : List (Nat × Option Blk)} {k1 d : Nat} (M : List Nat) (hf : FnM P f vs' h0 M.length r h1 k1) (ho : o.op = .call { callee := .value (.func f), args := xs, argTypes := ts } := by rfl)
    (hg : guardV (lk (looks ops o) env) ops o.guard = some true := by rfl) (hd : o.dst = some d := by rfl) (hdn : Nat.blt d nt = true := by rfl) (hx : argsE (lk (looks ops o) env) xs.toList = some vs := by rfl)
    (hw : ∀ N, WkL vs (fv.fvL (mM (M ++ [k]) N) vs') := by (intro N; (repeat' (first | exact WkL.nil | refine WkL.cons ?_ ?_ | exact Wk.refl _ | exact Wk.nil | refine Wk.agg ?_ | refine Wk.tup ?_)); first | done | fail "args"))
    (hM : nodupB (M ++ [k]) = true := by rfl) (hh : ∀ N, coverC (mM (M ++ [k]) N) M.length (pickH heap M) h0 := by (intro N; (repeat' (first | exact True.intro | exact rfl | refine And.intro ?_ ?_)); first | done | fail "mem"))
    (hk1 : k1 = M.length + 1 := by rfl) (hk2 : h1.all (fun p => Nat.blt p.1 k1) = true := by rfl)
    (hr : ∀ N, fv (mM (M ++ [k]) N) r = r' := by first | (intro N; simp only [fv, fv.fvL, List.cons_append, List.nil_append, mM0, mM1, mM2, mM3, mM4, mM5, mM6, mM7]; rfl) | (intro N; rfl))
    (hH : ∀ N, fH (mM (M ++ [k]) N) h1 ++ deadM M = H := by (intro N; simp only [fH, fB, fv, fv.fvL, deadM, Option.map_some, Option.map_none, List.cons_append, List.nil_append, mM0, mM1, mM2, mM3, mM4, mM5, mM6, mM7]; rfl))
    (hin : H.all (fun p => Nat.beq p.1 k || memI M p.1) = true := by rfl) (hW : M.all (fun id => W (k - b0) id) = true := by kernel_rfl) (hv : M.all (fun id => vis ops W b0 (k - b0) id) = true := by kernel_rfl)
    (hk : k + 1 = k' := by (simp only [Nat.reduceAdd]; rfl)) (hb' : Nat.ble b0 k = true := by rfl) (hc : isWc o.op = true := by rfl) (hheap : H ++ heap = heap' := by (simp only [List.cons_append, List.nil_append]; rfl))
    (h : PL P nt b0 ops W k' rest ((d, r') :: env) heap' Q) : PL P nt b0 ops W k (o :: rest) env heap Q := by
  subst hheap
  refine p_at (Hn := pickH heap M) (H := H) hg hd hk hb' (fun id B h => ?_) (fun id h => ?_) (fun N env' heap' hE hHc => ?_) h
  · obtain ⟨q1, q2⟩ := pickH_get h
    exact ⟨all_memI hv q1, q2⟩
  · rcases inH_keys hin id h with q | q
    · exact .inl q
    · exact .inr ⟨all_memI hW q, hc, all_memI hv q⟩
  · have := a_callM (k := k) (st := ⟨env', heap', N, nt⟩) M hf ho (by rw [hd]; exact hdn) (argsE_mono hE hx) (hw N) hM (coverC_mono (fun id B h => hHc id B h) (hh N)) hk1 hk2
    rw [hd] at this
    rw [hr N, ← List.append_assoc, hH N] at this
    exact this
end
section
variable {P : Program} {n0 : Nat} {o : Oper} {ops rest : List Oper} {env : List (Nat × V)} {heap : List (Nat × Option Blk)} {next nt : Nat} {Q : St → Prop}
/-- a part of a slice with no room behind it -/
theorem s_sliceM {α : Type} [Inhabited α] {f : α → List V} {t e s d : Nat} {x z : Operand} {lo hi : Option Operand} {v : V} {l r : List α} {a b : Option Int} {kc : IntKind} {zc : Int} (m n : Nat) (ha : a.getD 0 = (m : Int)) (hb : b.getD l.length = (n : Int)) (hmn : m ≤ n) (hn : n ≤ l.length) (hr : (l.take n).drop m = r)
    (ho : o.op = .slice t x lo hi (some z) := by rfl) (hx : opE env x = some v := by rfl) (hv : roV heap v = some (l.map f) := by rfl) (hlo : boundE env lo = some a := by rfl) (hhi : boundE env hi = some b := by rfl) (hhs : hi.isSome = true := by rfl) (hz : opE env z = some (.lit (.int kc zc)) := by rfl) (hc : zc = (n : Int) := by first | rfl | omega)
    (ht : P.underlying t = some (.slice e) := by rfl) (hs : sizeT P e = some s := by rfl) (hsl : ∀ x, (f x).length = s := by intro x; rfl)
    (hg : guardV env ops o.guard = some true := by rfl) (hd : o.dst = some d := by rfl) (hdn : Nat.blt d nt = true := by rfl) (h : RunL P n0 ops.toArray rest ⟨(d, .ro (r.map f)) :: env, heap, next, nt⟩ Q) : RunL P n0 ops.toArray (o :: rest) ⟨env, heap, next, nt⟩ Q := by
  have e : ((l.map f).take n).drop m = r.map f := by rw [← hr, List.map_drop, List.map_take]
  refine x_q hg hd hdn ?_ h
  rw [← e]
  exact q_sliceM (l := l.map f) ho hx hv hlo hhi hhs hz ht hs (lenf hsl) ha (by rw [List.length_map]; exact hb) hc hmn (Nat.le_refl _) (by rw [List.length_map]; exact hn)
end
end Go.Proofs.Ytnbbnedpjfanoaa
