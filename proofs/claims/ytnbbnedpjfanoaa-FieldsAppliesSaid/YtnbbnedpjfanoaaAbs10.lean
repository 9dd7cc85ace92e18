/-
  A VALUE CALCULUS OVER THE MODEL, part 10: regions that draw the order of their operations. Plain lemmas, over any program.
-/
import Derived.Test.YtnbbnedpjfanoaaAbs9
set_option linter.unusedVariables false
set_option linter.unusedSimpArgs false
set_option linter.unusedVariables false
namespace Go.Proofs.Ytnbbnedpjfanoaa
open Go.RowKit

/-! ### The text: what surely comes ahead of what -/
def dirM (ms : List Nat) : List Edge → Nat
  | [] => 0
  | e :: es => bif Region.binds .any e then ((2 ^ e.on) ||| ms.getD e.on 0) ||| dirM ms es else dirM ms es
def masksFrom (ms : List Nat) : List Oper → List Nat
  | [] => ms
  | o :: os => masksFrom (ms ++ [dirM ms o.after.toList]) os
def masks (ops : List Oper) : List Nat := masksFrom [] ops
def looks (ops : List Oper) (o : Oper) : List Nat :=
  (o.op.operands.toList.filterMap fun | .tmp t => some t | _ => none) ++
  (match o.guard with
   | some (g, _) => match ops[g]? with
     | some og => match og.dst with
       | some d => [d]
       | none => []
     | none => []
   | none => [])
def writersOk (ms : List Nat) (i t : Nat) : Nat → List Oper → Bool
  | _, [] => true
  | j, o :: os => (match o.dst with | some d => (bif Nat.beq d t then Nat.testBit (ms.getD i 0) j || Nat.testBit (ms.getD j 0) i else true) | none => true) && writersOk ms i t (j + 1) os
def isW : Op → Bool
  | .store .. => true
  | .call { callee := .builtin .append, .. } => true
  | _ => false
def isWc : Op → Bool
  | .store .. => true
  | .call .. => true
  | _ => false
def distinctD : List Oper → Bool
  | [] => true
  | o :: os => (match o.dst with
    | some d => os.all (fun o' => match o'.dst with | some d' => !Nat.beq d' d | none => true)
    | none => true) && distinctD os
def okFrom (ops : List Oper) (ms : List Nat) : Nat → List Oper → Bool
  | _, [] => true
  | i, o :: os => Nat.beq (ms.getD i 0) (dirM ms o.after.toList) && (o.after.toList.all (fun e => !Region.binds .any e || Nat.blt e.on i) && ((looks ops o).all (fun t => writersOk ms i t 0 ops) && okFrom ops ms (i + 1) os))
def okText (ops : List Oper) : Bool := distinctD ops && okFrom ops (masks ops) 0 ops
/-- comparable to all that write -/
def chainedF (ms : List Nat) (i : Nat) (p : Nat → Bool) : Nat → List Oper → Bool
  | _, [] => true
  | j, o :: os => (!p j || (Nat.beq j i || (Nat.testBit (ms.getD i 0) j || Nat.testBit (ms.getD j 0) i))) && chainedF ms i p (j + 1) os
def vis (ops : List Oper) (W : Nat → Nat → Bool) (b0 i id : Nat) : Bool := chainedF (masks ops) i (fun j => W j id) 0 ops && (Nat.blt id b0 || Nat.testBit ((masks ops).getD i 0) (id - b0))

theorem okFrom_spec {ops : List Oper} {ms : List Nat} : ∀ {os : List Oper} {i : Nat}, okFrom ops ms i os = true → ∀ j o, os[j]? = some o →
    ms.getD (i + j) 0 = dirM ms o.after.toList ∧ (∀ e ∈ o.after.toList, Region.binds .any e = true → e.on < i + j) ∧ ∀ t ∈ looks ops o, writersOk ms (i + j) t 0 ops = true
  | [], i, _, j, o, h => by simp at h
  | o' :: os, i, hk, j, o, h => by
    simp only [okFrom, Bool.and_eq_true] at hk
    obtain ⟨h1, h2, h3, h4⟩ := hk
    cases j with
    | zero =>
      simp only [List.getElem?_cons_zero, Option.some.injEq] at h
      subst h
      refine ⟨Nat.eq_of_beq_eq_true h1, fun e he hb => ?_, fun t ht => ?_⟩
      · rw [List.all_eq_true] at h2
        have := h2 e he
        rw [hb] at this
        simpa using this
      · rw [List.all_eq_true] at h3
        exact h3 t ht
    | succ j =>
      have := okFrom_spec h4 j o (by simpa using h)
      rwa [show i + 1 + j = i + (j + 1) by omega] at this
theorem writersOk_spec {ms : List Nat} {m t : Nat} : ∀ {os : List Oper} {i : Nat}, writersOk ms m t i os = true → ∀ j o, os[j]? = some o → o.dst = some t → Nat.testBit (ms.getD m 0) (i + j) = true ∨ Nat.testBit (ms.getD (i + j) 0) m = true
  | [], i, _, j, o, h, _ => by simp at h
  | o' :: os, i, hk, j, o, h, hd => by
    simp only [writersOk, Bool.and_eq_true] at hk
    cases j with
    | zero =>
      simp only [List.getElem?_cons_zero, Option.some.injEq] at h
      subst h
      have := hk.1
      rw [hd] at this
      simpa using this
    | succ j =>
      have := writersOk_spec hk.2 j o (by simpa using h) hd
      rwa [show i + 1 + j = i + (j + 1) by omega] at this

theorem chainedF_spec {ms : List Nat} {i : Nat} {p : Nat → Bool} : ∀ {os : List Oper} {k : Nat}, chainedF ms i p k os = true → ∀ j o, os[j]? = some o → p (k + j) = true → k + j = i ∨ Nat.testBit (ms.getD i 0) (k + j) = true ∨ Nat.testBit (ms.getD (k + j) 0) i = true
  | [], k, _, j, o, h, _ => by simp at h
  | o' :: os, k, hk, j, o, h, hw => by
    simp only [chainedF, Bool.and_eq_true] at hk
    cases j with
    | zero =>
      have := hk.1
      rw [Nat.add_zero] at hw
      rw [hw] at this
      simpa [Nat.beq_eq] using this
    | succ j =>
      have := chainedF_spec hk.2 j o (by simpa using h) (by rw [show k + 1 + j = k + (j + 1) by omega]; exact hw)
      rwa [show k + 1 + j = k + (j + 1) by omega] at this

theorem distinctD_spec : ∀ {os : List Oper}, distinctD os = true → ∀ (i j : Nat) (o o' : Oper) (d : Nat), i < j → os[i]? = some o → os[j]? = some o' → o.dst = some d → o'.dst ≠ some d
  | [], _, i, j, o, o', d, _, h, _, _ => by simp at h
  | o1 :: os, hk, i, j, o, o', d, hij, h, h', hd => by
    simp only [distinctD, Bool.and_eq_true] at hk
    cases j with
    | zero => omega
    | succ j =>
      cases i with
      | zero =>
        simp only [List.getElem?_cons_zero, Option.some.injEq] at h
        subst h
        have := hk.1
        rw [hd] at this
        simp only [List.all_eq_true] at this
        have h2 := this o' (List.mem_of_getElem? (by simpa using h'))
        intro he
        rw [he] at h2
        simp at h2
      | succ i => exact distinctD_spec hk.2 i j o o' d (by omega) (by simpa using h) (by simpa using h') hd
theorem dirM_spec {ms : List Nat} : ∀ {es : List Edge} {j : Nat}, Nat.testBit (dirM ms es) j = true → ∃ e ∈ es, Region.binds .any e = true ∧ (e.on = j ∨ Nat.testBit (ms.getD e.on 0) j = true)
  | [], j, h => by simp [dirM] at h
  | e :: es, j, h => by
    simp only [dirM] at h
    cases hb : Region.binds .any e with
    | false =>
      rw [hb] at h
      obtain ⟨e', h1, h2⟩ := dirM_spec (es := es) h
      exact ⟨e', List.mem_cons_of_mem _ h1, h2⟩
    | true =>
      rw [hb] at h
      simp only [cond_true, Nat.testBit_or, Bool.or_eq_true] at h
      rcases h with (h | h) | h
      · refine ⟨e, List.mem_cons_self, hb, .inl ?_⟩
        rw [Nat.testBit_two_pow] at h
        simpa using h
      · exact ⟨e, List.mem_cons_self, hb, .inr h⟩
      · obtain ⟨e', h1, h2⟩ := dirM_spec (es := es) h
        exact ⟨e', List.mem_cons_of_mem _ h1, h2⟩

/-! ### The plan: what each operation yields, and what it does to the memory -/
structure Stp where
  v : V
  H : List (Nat × Option Blk)
def putE (d : Option Tmp) (v : V) (env : List (Nat × V)) : List (Nat × V) :=
  match d with
  | some d => (d, v) :: env
  | none => env
def inH : List (Nat × Option Blk) → Nat → Bool
  | [], _ => false
  | (t, _) :: r, id => Nat.beq t id || inH r id
theorem getH_appc {H h : List (Nat × Option Blk)} {id : Nat} : getH (H ++ h) id = cond (inH H id) (getH H id) (getH h id) := by
  induction H with
  | nil => rfl
  | cons x r ih =>
    obtain ⟨t, B⟩ := x
    show cond (Nat.beq t id) B (getH (r ++ h) id) = cond (Nat.beq t id || inH r id) (cond (Nat.beq t id) B (getH r id)) (getH h id)
    rw [ih]
    cases Nat.beq t id <;> rfl
theorem getH_app {H h : List (Nat × Option Blk)} {id : Nat} : getH (H ++ h) id = if inH H id = true then getH H id else getH h id := by
  rw [getH_appc]
  generalize inH H id = b
  cases b <;> rfl

def envU : List (Oper × Stp) → Nat → (Nat → Bool) → List (Nat × V) → List (Nat × V)
  | [], _, _, e => e
  | (o, s) :: r, i, p, e => envU r (i + 1) p (if p i = true then putE o.dst s.v e else e)
def heapU : List (Oper × Stp) → Nat → (Nat → Bool) → List (Nat × Option Blk) → List (Nat × Option Blk)
  | [], _, _, h => h
  | (o, s) :: r, i, p, h => heapU r (i + 1) p (if p i = true then s.H ++ h else h)

theorem getE_put {d : Option Tmp} {v : V} {e : List (Nat × V)} {t : Nat} : getE (putE d v e) t = if d = some t then some v else getE e t := by
  cases d with
  | none => simp [putE]
  | some d =>
    simp only [putE, getE, Option.some.injEq]
    by_cases h : d = t
    · subst h; simp
    · rw [if_neg h]
      have hb : Nat.beq d t = false := by
        cases hb : Nat.beq d t
        · rfl
        · exact absurd (Nat.eq_of_beq_eq_true hb) h
      rw [hb]; rfl
theorem envU_congr {t : Nat} : ∀ {z : List (Oper × Stp)} {i : Nat} {p q : Nat → Bool} {e1 e2 : List (Nat × V)}, (∀ j o s, z[j]? = some (o, s) → o.dst = some t → p (i + j) = q (i + j)) → getE e1 t = getE e2 t → getE (envU z i p e1) t = getE (envU z i q e2) t
  | [], i, p, q, e1, e2, _, h => h
  | (o, s) :: r, i, p, q, e1, e2, hp, h => by
    simp only [envU]
    refine envU_congr (fun j o' s' hj hd => ?_) ?_
    · have := hp (j + 1) o' s' (by simpa using hj) hd
      rwa [show i + (j + 1) = i + 1 + j by omega] at this
    · by_cases hd : o.dst = some t
      · have := hp 0 o s (by simp) hd
        simp only [Nat.add_zero] at this
        rw [this]
        split
        · rw [getE_put, getE_put, if_pos hd, if_pos hd]
        · exact h
      · have e : ∀ (b : Bool) (e : List (Nat × V)), getE (if b = true then putE o.dst s.v e else e) t = getE e t := fun b e => by
          cases b
          · rfl
          · simp only [if_true]; rw [getE_put, if_neg hd]
        rw [e, e]; exact h
theorem heapU_congr {id : Nat} : ∀ {z : List (Oper × Stp)} {i : Nat} {p q : Nat → Bool} {e1 e2 : List (Nat × Option Blk)}, (∀ j o s, z[j]? = some (o, s) → inH s.H id = true → p (i + j) = q (i + j)) → getH e1 id = getH e2 id → getH (heapU z i p e1) id = getH (heapU z i q e2) id
  | [], i, p, q, e1, e2, _, h => h
  | (o, s) :: r, i, p, q, e1, e2, hp, h => by
    simp only [heapU]
    refine heapU_congr (fun j o' s' hj hd => ?_) ?_
    · have := hp (j + 1) o' s' (by simpa using hj) hd
      rwa [show i + (j + 1) = i + 1 + j by omega] at this
    · by_cases hd : inH s.H id = true
      · have := hp 0 o s (by simp) hd
        simp only [Nat.add_zero] at this
        rw [this]
        split
        · rw [getH_app, getH_app, if_pos hd, if_pos hd]
        · exact h
      · have e : ∀ (b : Bool) (e : List (Nat × Option Blk)), getH (if b = true then s.H ++ e else e) id = getH e id := fun b e => by
          cases b
          · rfl
          · simp only [if_true]; rw [getH_app, if_neg hd]
        rw [e, e]; exact h
/-- to do one more -/
theorem envU_add {t k : Nat} {ok : Oper} {sk : Stp} : ∀ {z : List (Oper × Stp)} {i : Nat} {p q : Nat → Bool} {e : List (Nat × V)}, z[k]? = some (ok, sk) → (∀ j, j ≠ i + k → q j = p j) → q (i + k) = true → p (i + k) = false →
    (∀ j o s, z[j]? = some (o, s) → k < j → ok.dst = some t → o.dst ≠ some t) → getE (envU z i q e) t = getE (putE ok.dst sk.v (envU z i p e)) t
  | [], i, p, q, e, hz, _, _, _, _ => by simp at hz
  | (o, s) :: r, i, p, q, e, hz, hq, hqk, hpk, hd => by
    simp only [envU]
    cases k with
    | zero =>
      simp only [List.getElem?_cons_zero, Option.some.injEq, Prod.mk.injEq] at hz
      obtain ⟨rfl, rfl⟩ := hz
      simp only [Nat.add_zero] at hqk hpk
      rw [hqk, hpk]
      simp only [if_true, Bool.false_eq_true, if_false]
      rw [getE_put]
      by_cases ht : o.dst = some t
      · rw [if_pos ht]
        have h1 : getE (envU r (i + 1) q (putE o.dst s.v e)) t = getE (envU r (i + 1) (fun _ => false) (putE o.dst s.v e)) t := envU_congr (fun j o' s' hj hd' => absurd hd' (hd (j + 1) o' s' (by simpa using hj) (by omega) ht)) rfl
        have h2 : ∀ (z : List (Oper × Stp)) (i : Nat) (e : List (Nat × V)), envU z i (fun _ => false) e = e := by
          intro z
          induction z with
          | nil => intro i e; rfl
          | cons x r ih => intro i e; obtain ⟨o, s⟩ := x; simp only [envU]; exact ih _ _
        rw [h1, h2, getE_put, if_pos ht]
      · rw [if_neg ht]
        exact envU_congr (fun j o' s' hj hd' => hq _ (by omega)) (by rw [getE_put, if_neg ht])
    | succ k =>
      rw [show i + (k + 1) = i + 1 + k by omega] at hq hqk hpk
      rw [hq i (by omega)]
      exact envU_add (by simpa using hz) hq hqk hpk (fun j o' s' hj hkj => hd (j + 1) o' s' (by simpa using hj) (by omega))
theorem heapU_false : ∀ (z : List (Oper × Stp)) (i : Nat) (p : Nat → Bool) (e : List (Nat × Option Blk)), (∀ j, p (i + j) = false) → heapU z i p e = e
  | [], i, p, e, _ => rfl
  | (o, s) :: r, i, p, e, h => by
    simp only [heapU]
    have h0 := h 0
    simp only [Nat.add_zero] at h0
    rw [h0]
    simp only [Bool.false_eq_true, if_false]
    exact heapU_false r (i + 1) p e (fun j => by have := h (j + 1); rwa [show i + (j + 1) = i + 1 + j by omega] at this)
theorem envU_false : ∀ (z : List (Oper × Stp)) (i : Nat) (p : Nat → Bool) (e : List (Nat × V)), (∀ j, p (i + j) = false) → envU z i p e = e
  | [], i, p, e, _ => rfl
  | (o, s) :: r, i, p, e, h => by
    simp only [envU]
    have h0 := h 0
    simp only [Nat.add_zero] at h0
    rw [h0]
    simp only [Bool.false_eq_true, if_false]
    exact envU_false r (i + 1) p e (fun j => by have := h (j + 1); rwa [show i + (j + 1) = i + 1 + j by omega] at this)
theorem heapU_add {id k : Nat} {ok : Oper} {sk : Stp} : ∀ {z : List (Oper × Stp)} {i : Nat} {p q : Nat → Bool} {e : List (Nat × Option Blk)}, z[k]? = some (ok, sk) → (∀ j, j ≠ i + k → q j = p j) → q (i + k) = true → p (i + k) = false →
    (∀ j o s, z[j]? = some (o, s) → k < j → inH sk.H id = true → inH s.H id = true → p (i + j) = false) → getH (heapU z i q e) id = getH (sk.H ++ heapU z i p e) id
  | [], i, p, q, e, hz, _, _, _, _ => by simp at hz
  | (o, s) :: r, i, p, q, e, hz, hq, hqk, hpk, hd => by
    simp only [heapU]
    cases k with
    | zero =>
      simp only [List.getElem?_cons_zero, Option.some.injEq, Prod.mk.injEq] at hz
      obtain ⟨rfl, rfl⟩ := hz
      simp only [Nat.add_zero] at hqk hpk
      rw [hqk, hpk]
      simp only [if_true, Bool.false_eq_true, if_false]
      rw [getH_app]
      by_cases ht : inH s.H id = true
      · rw [if_pos ht]
        have h1 : getH (heapU r (i + 1) q (s.H ++ e)) id = getH (heapU r (i + 1) (fun _ => false) (s.H ++ e)) id := heapU_congr (fun j o' s' hj hd' => by
          rw [hq _ (by omega)]
          have := hd (j + 1) o' s' (by simpa using hj) (by omega) ht hd'
          rwa [show i + (j + 1) = i + 1 + j by omega] at this) rfl
        rw [h1, heapU_false _ _ _ _ (fun _ => rfl), getH_app, if_pos ht]
      · rw [if_neg ht]
        exact heapU_congr (fun j o' s' hj hd' => hq _ (by omega)) (by rw [getH_app, if_neg ht])
    | succ k =>
      rw [show i + (k + 1) = i + 1 + k by omega] at hq hqk hpk
      rw [hq i (by omega)]
      exact heapU_add (by simpa using hz) hq hqk hpk (fun j o' s' hj hkj h1 h2 => by
        have := hd (j + 1) o' s' (by simpa using hj) (by omega) h1 h2
        rwa [show i + (j + 1) = i + 1 + j by omega] at this)

section
variable {P : Program} {N nt b0 : Nat} {ops : List Oper} {W : Nat → Nat → Bool}

def stepWp (P : Program) (ops : Array Oper) (o : Oper) (K : Act → World → Prop) (a : Act) (w : World) : Prop :=
  if Region.wanted o (yielded ops a.tmps) = true then o.wp P a w K (fun _ _ _ => False) else K (a.put o.dst undef) w
/-- what an operation does from every state that holds what it looks at; kk: the number that it may take -/
def Fam (P : Program) (N nt kk : Nat) (ops : List Oper) (o : Oper) (E : List (Nat × V)) (Hn : List (Nat × Option Blk)) (s : Stp) : Prop :=
  ∀ env heap, (∀ t x, getE E t = some x → getE env t = some x) → (∀ id B, getH Hn id = some B → getH heap id = some B) →
    ∀ F M w0 ρ a w, HRel F M ρ heap N w0 w → ERel ρ (Stab F ρ heap) w nt env a → ρ kk = none →
      stepWp P ops.toArray o (fun a' w' => ∃ ρ', HRel F M ρ' (s.H ++ heap) N w0 w' ∧ ERel ρ' (Stab F ρ' (s.H ++ heap)) w' nt (putE o.dst s.v env) a' ∧ (∀ id, id < N → id ≠ kk → ρ' id = ρ id)) a w
def StepOK (P : Program) (N nt b0 : Nat) (ops : List Oper) (W : Nat → Nat → Bool) (i : Nat) (o : Oper) (env : List (Nat × V)) (heap : List (Nat × Option Blk)) (s : Stp) : Prop :=
  ∃ E Hn, (∀ t x, getE E t = some x → t ∈ looks ops o ∧ getE env t = some x) ∧ (∀ id B, getH Hn id = some B → vis ops W b0 i id = true ∧ getH heap id = some B) ∧
    (∀ id, inH s.H id = true → id = b0 + i ∨ (W i id = true ∧ isWc o.op = true ∧ vis ops W b0 i id = true)) ∧ Fam P N nt (b0 + i) ops o E Hn s
inductive Plan (P : Program) (N nt b0 : Nat) (ops : List Oper) (W : Nat → Nat → Bool) : Nat → List Oper → List (Nat × V) → List (Nat × Option Blk) → List Stp → List (Nat × V) → List (Nat × Option Blk) → Prop
  | nil (i : Nat) (env : List (Nat × V)) (heap : List (Nat × Option Blk)) : Plan P N nt b0 ops W i [] env heap [] env heap
  | cons {i : Nat} {o : Oper} {rest : List Oper} {env : List (Nat × V)} {heap : List (Nat × Option Blk)} {s : Stp} {ss : List Stp} {eF : List (Nat × V)} {hF : List (Nat × Option Blk)}
      (h : StepOK P N nt b0 ops W i o env heap s) (hr : Plan P N nt b0 ops W (i + 1) rest (putE o.dst s.v env) (s.H ++ heap) ss eF hF) : Plan P N nt b0 ops W i (o :: rest) env heap (s :: ss) eF hF

theorem blt_t {m n : Nat} (h : m < n) : Nat.blt m n = true := Nat.ble_eq_true_of_le h
theorem blt_f {m n : Nat} (h : n ≤ m) : Nat.blt m n = false := by
  cases hb : Nat.blt m n with
  | false => rfl
  | true => have := Nat.le_of_ble_eq_true hb; omega
theorem Plan.len {i : Nat} {rest : List Oper} {env : List (Nat × V)} {heap : List (Nat × Option Blk)} {ss : List Stp} {eF : List (Nat × V)} {hF : List (Nat × Option Blk)} (h : Plan P N nt b0 ops W i rest env heap ss eF hF) : ss.length = rest.length := by
  induction h with
  | nil => rfl
  | cons h hr ih => simp [ih]
theorem Plan.get {i : Nat} {rest : List Oper} {env : List (Nat × V)} {heap : List (Nat × Option Blk)} {ss : List Stp} {eF : List (Nat × V)} {hF : List (Nat × Option Blk)} (h : Plan P N nt b0 ops W i rest env heap ss eF hF) :
    ∀ j o s, (rest.zip ss)[j]? = some (o, s) → StepOK P N nt b0 ops W (i + j) o (envU (rest.zip ss) i (fun x => Nat.blt x (i + j)) env) (heapU (rest.zip ss) i (fun x => Nat.blt x (i + j)) heap) s := by
  induction h with
  | nil => intro j o s h; simp at h
  | @cons i o rest env heap s ss eF hF h hr ih =>
    intro j o' s' hj
    cases j with
    | zero =>
      simp only [List.zip_cons_cons, List.getElem?_cons_zero, Option.some.injEq, Prod.mk.injEq] at hj
      obtain ⟨rfl, rfl⟩ := hj
      rw [envU_false _ _ (fun x => Nat.blt x (i + 0)) _ (fun j => blt_f (by omega)), heapU_false _ _ (fun x => Nat.blt x (i + 0)) _ (fun j => blt_f (by omega))]
      exact h
    | succ j =>
      have := ih j o' s' (by simpa using hj)
      rw [show i + 1 + j = i + (j + 1) by omega] at this
      simp only [List.zip_cons_cons, envU, heapU]
      rw [if_pos (blt_t (by omega)), if_pos (blt_t (by omega))]
      exact this
theorem Plan.fin {i : Nat} {rest : List Oper} {env : List (Nat × V)} {heap : List (Nat × Option Blk)} {ss : List Stp} {eF : List (Nat × V)} {hF : List (Nat × Option Blk)} (h : Plan P N nt b0 ops W i rest env heap ss eF hF) :
    eF = envU (rest.zip ss) i (fun x => Nat.blt x (i + rest.length)) env ∧ hF = heapU (rest.zip ss) i (fun x => Nat.blt x (i + rest.length)) heap := by
  induction h with
  | nil => exact ⟨rfl, rfl⟩
  | @cons i o rest env heap s ss eF hF h hr ih =>
    simp only [List.zip_cons_cons, envU, heapU, List.length_cons]
    rw [if_pos (blt_t (by omega)), if_pos (blt_t (by omega))]
    rw [show i + (rest.length + 1) = i + 1 + rest.length by omega]
    exact ih

theorem HRel.same {F : Nat → Prop} {M : Nat → Prop} {ρ : Nat → Option Value} {heap heap' : List (Nat × Option Blk)} {next : Nat} {w0 w : World} (h : HRel F M ρ heap next w0 w) (he : ∀ id, getH heap' id = getH heap id) : HRel F M ρ heap' next w0 w ∧ ∀ b, Stab F ρ heap b ↔ Stab F ρ heap' b := by
  have hs : ∀ b, Stab F ρ heap b ↔ Stab F ρ heap' b := fun b => ⟨fun h => ⟨h.1, fun id B u hB => h.2 id B u (by rw [← he]; exact hB)⟩, fun h => ⟨h.1, fun id B u hB => h.2 id B u (by rw [he]; exact hB)⟩⟩
  refine ⟨⟨⟨h.below, h.hbase, h.sup, fun id id' B B' u u' b hB hB' => h.inj id id' B B' u u' b (by rw [← he]; exact hB) (by rw [← he]; exact hB'), fun id B hB => ?_⟩, h.hF⟩, hs⟩
  exact (h.blk id B (by rw [← he]; exact hB)).mono (Same.refl _ _) (fun b h _ => (hs b).1 h) (fun _ _ h => h) (fun _ _ _ _ _ _ => rfl)

theorem wpOp_of {i : Nat} {o : Oper} {Q : Exit → Act → World → Prop} {K : Act → World → Prop} {a : Act} {w : World} {ops : Array Oper} (hi : ops[i]? = some o) (h : stepWp P ops o K a w) : wpOp P ops Q i K a w := by
  unfold wpOp
  simp only [hi]
  unfold stepWp at h
  split
  · rename_i hw
    rw [if_pos hw] at h
    exact .inl (upon_mono (fun _ _ h => h) (fun _ _ _ h => h.elim) h)
  · rename_i hw
    rw [if_neg hw] at h
    exact h
theorem stepWp_mono {ops : Array Oper} {o : Oper} {K K' : Act → World → Prop} {a : Act} {w : World} (h : ∀ a w, K a w → K' a w) (hh : stepWp P ops o K a w) : stepWp P ops o K' a w := by
  unfold stepWp at *
  split
  · rename_i hw
    rw [if_pos hw] at hh
    exact upon_mono0 h hh
  · rename_i hw
    rw [if_neg hw] at hh
    exact h _ _ hh

/-- the region in whatever order -/
theorem plan_sound {n0 : Nat} {env0 : List (Nat × V)} {heap0 : List (Nat × Option Blk)} {ss : List Stp} {eF : List (Nat × V)} {hF : List (Nat × Option Blk)} (hok : okText ops = true) (hp : Plan P (b0 + ops.length) nt b0 ops W 0 ops env0 heap0 ss eF hF) (hn0 : n0 ≤ b0)
    {F : Nat → Prop} {M : Nat → Prop} {w0 : World} {ρ0 : Nat → Option Value} : ∀ (fuel : Nat) (us : List Nat) (listed : Array Bool) (a : Act) (w : World) (ρ : Nat → Option Value), us.length = fuel → us.Nodup → (∀ i, i ∈ us ↔ (i < ops.length ∧ listed.getD i false = false)) → listed.size = ops.length →
      (∀ i j, listed.getD i false = true → Nat.testBit ((masks ops).getD i 0) j = true → listed.getD j false = true) →
      HRel F M ρ (heapU (ops.zip ss) 0 (fun i => listed.getD i false) heap0) (b0 + ops.length) w0 w → ERel ρ (Stab F ρ (heapU (ops.zip ss) 0 (fun i => listed.getD i false) heap0)) w nt (envU (ops.zip ss) 0 (fun i => listed.getD i false) env0) a →
      (∀ id, id < n0 → ρ id = ρ0 id) → (∀ i, i < ops.length → listed.getD i false = false → ρ (b0 + i) = none) →
      wpAny P .any ops.toArray (Post n0 F M w0 ρ0 (NQ fun st => st = ⟨eF, hF, b0 + ops.length, nt⟩)) fuel listed a w := by
  simp only [okText, Bool.and_eq_true] at hok
  obtain ⟨hdist, hok⟩ := hok
  have hlen := hp.len
  have hget := hp.get
  obtain ⟨hfe, hfh⟩ := hp.fin
  have hz : ∀ i o, ops[i]? = some o → ∃ s, (ops.zip ss)[i]? = some (o, s) := fun i o h => by
    have hlt := (List.getElem?_eq_some_iff.1 h).1
    refine ⟨ss[i]'(by omega), ?_⟩
    rw [List.getElem?_zip_eq_some]
    exact ⟨h, List.getElem?_eq_getElem _⟩
  have hz2 : ∀ j o s, (ops.zip ss)[j]? = some (o, s) → ops[j]? = some o := fun j o s h => (List.getElem?_zip_eq_some.1 h).1
  have hmlt : ∀ n i, i < n → ∀ o, ops[i]? = some o → ∀ j, Nat.testBit ((masks ops).getD i 0) j = true → j < i := by
    intro n
    induction n with
    | zero => intro i h; omega
    | succ n ihn =>
      intro i hin o ho j hj
      obtain ⟨q1, q2, q3⟩ := okFrom_spec hok i o ho
      rw [Nat.zero_add] at q1 q2
      rw [q1] at hj
      obtain ⟨e, he, hb, hcase⟩ := dirM_spec hj
      have := q2 e he hb
      rcases hcase with rfl | hcase
      · exact this
      · have hlo := (List.getElem?_eq_some_iff.1 ho).1
        have := ihn e.on (by omega) ops[e.on] (List.getElem?_eq_getElem (by omega)) j hcase
        omega
  have hdone : ∀ (us : List Nat) (listed : Array Bool) (a : Act) (w : World) (ρ : Nat → Option Value), (∀ i, i ∈ us ↔ (i < ops.length ∧ listed.getD i false = false)) → us = [] →
      HRel F M ρ (heapU (ops.zip ss) 0 (fun i => listed.getD i false) heap0) (b0 + ops.length) w0 w → ERel ρ (Stab F ρ (heapU (ops.zip ss) 0 (fun i => listed.getD i false) heap0)) w nt (envU (ops.zip ss) 0 (fun i => listed.getD i false) env0) a →
      (∀ id, id < n0 → ρ id = ρ0 id) → Post n0 F M w0 ρ0 (NQ fun st => st = ⟨eF, hF, b0 + ops.length, nt⟩) .normal a w := by
    intro us listed a w ρ hus hnil hH hE hρ
    have hall : ∀ i, i < ops.length → listed.getD i false = true := fun i hi => by
      cases hb : listed.getD i false with
      | true => rfl
      | false =>
        have := (hus i).2 ⟨hi, hb⟩
        rw [hnil] at this; cases this
    have e1 : ∀ t, getE eF t = getE (envU (ops.zip ss) 0 (fun i => listed.getD i false) env0) t := fun t => by
      rw [hfe]
      refine envU_congr (fun j o s hj _ => ?_) rfl
      have hlt := (List.getElem?_eq_some_iff.1 (hz2 _ _ _ hj)).1
      rw [Nat.zero_add, Nat.zero_add, hall j hlt, blt_t hlt]
    have e2 : ∀ id, getH hF id = getH (heapU (ops.zip ss) 0 (fun i => listed.getD i false) heap0) id := fun id => by
      rw [hfh]
      refine heapU_congr (fun j o s hj _ => ?_) rfl
      have hlt := (List.getElem?_eq_some_iff.1 (hz2 _ _ _ hj)).1
      rw [Nat.zero_add, Nat.zero_add, hall j hlt, blt_t hlt]
    obtain ⟨g1, g2⟩ := hH.same e2
    exact ⟨ρ, _, ⟨rfl, rfl⟩, g1, ⟨hE.size, hE.defers, fun t v hv => by rw [e1] at hv; exact (hE.slot t v hv).mono (Same.refl _ _) (fun b h _ => (g2 b).1 h) (fun _ _ h => h)⟩, hρ⟩
  intro fuel
  induction fuel with
  | zero =>
    intro us listed a w ρ hlu hnd hus hsz hdc hH hE hρ hfr
    have hnil : us = [] := List.eq_nil_of_length_eq_zero hlu
    refine ⟨?_, hdone us listed a w ρ hus hnil hH hE hρ⟩
    cases hr : Region.ready .any ops.toArray listed with
    | nil => rfl
    | cons i r =>
      exfalso
      have hm : i ∈ Region.ready .any ops.toArray listed := by rw [hr]; exact List.mem_cons_self
      rw [mem_ready] at hm
      obtain ⟨h1, o, h2, _⟩ := hm
      have hlt : i < ops.length := (List.getElem?_eq_some_iff.1 (by simpa using h2)).1
      have : i ∈ us := (hus i).2 ⟨hlt, by rw [Array.getD_eq_getD_getElem?] at h1 ⊢; rw [Array.getElem?_eq_getElem (by omega)] at h1 ⊢; exact h1⟩
      rw [hnil] at this; cases this
  | succ fuel ih =>
    intro us listed a w ρ hlu hnd hus hsz hdc hH hE hρ hfr
    have hgd : ∀ i, i < ops.length → listed.getD i true = listed.getD i false := fun i hi => by
      rw [Array.getD_eq_getD_getElem?, Array.getD_eq_getD_getElem?, Array.getElem?_eq_getElem (by omega)]; rfl
    refine ⟨fun hr => ?_, fun i hi => ?_⟩
    · -- nothing is ready: all is done
      have hall : ∀ n i, i < n → i < ops.length → listed.getD i false = true := by
        intro n
        induction n with
        | zero => intro i h; omega
        | succ n ihn =>
          intro i hin hil
          cases hb : listed.getD i false with
          | true => rfl
          | false =>
            exfalso
            have : i ∈ Region.ready .any ops.toArray listed := by
              rw [mem_ready]
              refine ⟨by rw [hgd i hil]; exact hb, ops[i], by simp [hil], fun e he hbd => ?_⟩
              have := (okFrom_spec hok i ops[i] (List.getElem?_eq_getElem hil)).2.1 e (by simpa using he) hbd
              exact ihn e.on (by omega) (by omega)
            rw [hr] at this; cases this
      have hnil : us = [] := List.eq_nil_iff_forall_not_mem.2 (fun i hi => by
        have := (hus i).1 hi
        rw [hall (i + 1) i (by omega) this.1] at this
        exact Bool.noConfusion this.2)
      exact hdone us listed a w ρ hus hnil hH hE hρ
    · rw [mem_ready] at hi
      obtain ⟨h1, o, h2, h3⟩ := hi
      have h2 : ops[i]? = some o := by simpa using h2
      have hlt : i < ops.length := (List.getElem?_eq_some_iff.1 h2).1
      rw [hgd i hlt] at h1
      obtain ⟨s, hs⟩ := hz i o h2
      obtain ⟨E, Hn, g1, g2, g3, g4⟩ := hget i o s hs
      rw [Nat.zero_add] at g1 g2 g3 g4
      obtain ⟨o1, o2, o3⟩ := okFrom_spec hok i o h2
      rw [Nat.zero_add] at o1 o2 o3
      -- what surely comes ahead of i is done
      have hmask : ∀ j, Nat.testBit ((masks ops).getD i 0) j = true → listed.getD j false = true ∧ j < i := by
        have hall : ∀ n i, i < n → ∀ o, ops[i]? = some o → ∀ j, Nat.testBit ((masks ops).getD i 0) j = true → j < i := by
          intro n
          induction n with
          | zero => intro i h; omega
          | succ n ihn =>
            intro i hin o ho j hj
            obtain ⟨q1, q2, q3⟩ := okFrom_spec hok i o ho
            rw [Nat.zero_add] at q1 q2
            rw [q1] at hj
            obtain ⟨e, he, hb, hcase⟩ := dirM_spec hj
            have := q2 e he hb
            rcases hcase with rfl | hcase
            · exact this
            · have hlo := (List.getElem?_eq_some_iff.1 ho).1
              have := ihn e.on (by omega) ops[e.on] (List.getElem?_eq_getElem (by omega)) j hcase
              omega
        intro j hj
        refine ⟨?_, hall (i + 1) i (by omega) o h2 j hj⟩
        rw [o1] at hj
        obtain ⟨e, he, hb, hcase⟩ := dirM_spec hj
        have := h3 e (by simpa using he) hb
        rcases hcase with rfl | hcase
        · exact this
        · exact hdc _ _ this hcase
      refine wpOp_of (by simpa using h2) ?_
      have hvis : ∀ id, vis ops W b0 i id = true → ∀ j o' s', (ops.zip ss)[j]? = some (o', s') → inH s'.H id = true → Nat.blt j i = listed.getD j false ∧ (j = i ∨ Nat.blt j i = true ∨ listed.getD j false = false) := by
        intro id hv j o' s' hj hin
        obtain ⟨E', Hn', _, _, k3, _⟩ := hget j o' s' hj
        rw [Nat.zero_add] at k3
        simp only [vis, Bool.and_eq_true, Bool.or_eq_true, Bool.not_eq_true'] at hv
        obtain ⟨v1, v2⟩ := hv
        by_cases hji : j = i
        · subst hji
          exact ⟨by rw [h1]; exact blt_f (Nat.le_refl _), .inl rfl⟩
        rcases k3 id hin with rfl | ⟨w1, w2, w3⟩
        · rcases v2 with v2 | v2
          · have := Nat.le_of_ble_eq_true v2
            omega
          · rw [Nat.add_sub_cancel_left] at v2
            obtain ⟨m1, m2⟩ := hmask j v2
            exact ⟨by rw [m1, blt_t m2], .inr (.inl (blt_t m2))⟩
        · rcases chainedF_spec v1 j o' (hz2 _ _ _ hj) (by rw [Nat.zero_add]; exact w1) with c1 | c1 | c1
          · exact absurd (by omega) hji
          · rw [Nat.zero_add] at c1
            obtain ⟨m1, m2⟩ := hmask j c1
            exact ⟨by rw [m1, blt_t m2], .inr (.inl (blt_t m2))⟩
          · rw [Nat.zero_add] at c1
            have hjl := (List.getElem?_eq_some_iff.1 (hz2 _ _ _ hj)).1
            have hnl : listed.getD j false = false := by
              cases hb : listed.getD j false with
              | false => rfl
              | true => rw [hdc j i hb c1] at h1; cases h1
            have hji2 : ¬ j < i := by
              intro hlt2
              -- i comes ahead of j in the text
              have hall : ∀ n i, i < n → ∀ o, ops[i]? = some o → ∀ j, Nat.testBit ((masks ops).getD i 0) j = true → j < i := by
                intro n
                induction n with
                | zero => intro i h; omega
                | succ n ihn =>
                  intro i hin o ho j hj
                  obtain ⟨q1, q2, q3⟩ := okFrom_spec hok i o ho
                  rw [Nat.zero_add] at q1 q2
                  rw [q1] at hj
                  obtain ⟨e, he, hb, hcase⟩ := dirM_spec hj
                  have := q2 e he hb
                  rcases hcase with rfl | hcase
                  · exact this
                  · have hlo := (List.getElem?_eq_some_iff.1 ho).1
                    have := ihn e.on (by omega) ops[e.on] (List.getElem?_eq_getElem (by omega)) j hcase
                    omega
              have := hall (j + 1) j (by omega) o' (hz2 _ _ _ hj) i c1
              omega
            exact ⟨by rw [hnl]; exact blt_f (by omega), .inr (.inr hnl)⟩
      have hEc : ∀ t x, getE E t = some x → getE (envU (ops.zip ss) 0 (fun i => listed.getD i false) env0) t = some x := by
        intro t x ht
        obtain ⟨k1, k2⟩ := g1 t x ht
        rw [← k2]
        refine envU_congr (fun j o' s' hj hd => ?_) rfl
        have := writersOk_spec (o3 t k1) j o' (hz2 _ _ _ hj) hd
        rw [Nat.zero_add] at this ⊢
        rcases this with this | this
        · obtain ⟨m1, m2⟩ := hmask j this
          simp [m1, m2]
        · have hlt2 := hmlt (j + 1) j (by omega) o' (hz2 _ _ _ hj) i this
          have hnl : listed.getD j false = false := by
            cases hb : listed.getD j false with
            | false => rfl
            | true => rw [hdc j i hb this] at h1; cases h1
          rw [hnl]
          first | exact blt_f (by omega) | exact (blt_f (by omega)).symm
      have hHc : ∀ id B, getH Hn id = some B → getH (heapU (ops.zip ss) 0 (fun i => listed.getD i false) heap0) id = some B := by
        intro id B hB
        obtain ⟨k1, k2⟩ := g2 id B hB
        rw [← k2]
        refine heapU_congr (fun j o' s' hj hd => ?_) rfl
        rw [Nat.zero_add]
        exact (hvis id k1 j o' s' hj hd).1.symm
      refine stepWp_mono ?_ (g4 _ _ hEc hHc F M w0 ρ a w hH hE (hfr i hlt h1))
      rintro a' w' ⟨ρ', q1, q2, q3⟩
      have hset : ∀ j, (listed.setIfInBounds i true).getD j false = if j = i then true else listed.getD j false := fun j => by
        by_cases hji : j = i
        · subst hji
          rw [if_pos rfl, Array.getD_eq_getD_getElem?, Array.getElem?_setIfInBounds_self_of_lt (by omega)]; rfl
        · rw [if_neg hji, getD_set_ne false (Ne.symm hji)]
      have eE : ∀ t, getE (envU (ops.zip ss) 0 (fun j => (listed.setIfInBounds i true).getD j false) env0) t = getE (putE o.dst s.v (envU (ops.zip ss) 0 (fun j => listed.getD j false) env0)) t := fun t =>
        envU_add hs (fun j hj => by rw [Nat.zero_add] at hj; rw [hset, if_neg hj]) (by rw [Nat.zero_add, hset, if_pos rfl]) (by rw [Nat.zero_add]; exact h1) (fun j o' s' hj hkj hd => distinctD_spec hdist i j o o' t hkj h2 (hz2 _ _ _ hj) hd)
      have eH : ∀ id, getH (heapU (ops.zip ss) 0 (fun j => (listed.setIfInBounds i true).getD j false) heap0) id = getH (s.H ++ heapU (ops.zip ss) 0 (fun j => listed.getD j false) heap0) id := fun id =>
        heapU_add hs (fun j hj => by rw [Nat.zero_add] at hj; rw [hset, if_neg hj]) (by rw [Nat.zero_add, hset, if_pos rfl]) (by rw [Nat.zero_add]; exact h1) (fun j o' s' hj hkj hin hin' => by
          rw [Nat.zero_add]
          rcases g3 id hin with rfl | ⟨w1, w2, w3⟩
          · -- what i makes, nobody else has written
            cases hb : listed.getD j false with
            | false => rfl
            | true =>
              exfalso
              obtain ⟨E', Hn', _, _, k3, _⟩ := hget j o' s' hj
              rw [Nat.zero_add] at k3
              rcases k3 _ hin' with e | ⟨x1, x2, x3⟩
              · omega
              · simp only [vis, Bool.and_eq_true, Bool.or_eq_true] at x3
                rcases x3.2 with x3 | x3
                · have := Nat.le_of_ble_eq_true x3; omega
                · rw [Nat.add_sub_cancel_left] at x3
                  rw [hdc j i hb x3] at h1; cases h1
          · rcases (hvis id w3 j o' s' hj hin').2 with e | e | e
            · omega
            · have := Nat.le_of_ble_eq_true e; omega
            · exact e)
      obtain ⟨r1, r2⟩ := q1.same eH
      refine ih (us.erase i) (listed.setIfInBounds i true) a' w' ρ' ?_ (hnd.erase i) (fun j => ?_) (by simp [hsz]) (fun j k hj hk => ?_) r1 ⟨q2.size, q2.defers, fun t v hv => ?_⟩ (fun id hid => ?_) (fun j hj hl => ?_)
      · have : i ∈ us := (hus i).2 ⟨hlt, h1⟩
        rw [List.length_erase_of_mem this]; omega
      · rw [hnd.mem_erase_iff, hus, hset]
        constructor
        · rintro ⟨k1, k2, k3⟩; rw [if_neg k1]; exact ⟨k2, k3⟩
        · rintro ⟨k2, k3⟩
          split at k3
          · cases k3
          · rename_i k1; exact ⟨k1, k2, k3⟩
      · rw [hset] at hj ⊢
        split
        · rfl
        · split at hj
          · rename_i e; subst e; exact (hmask k hk).1
          · exact hdc j k hj hk
      · rw [eE] at hv
        exact (q2.slot t v hv).mono (Same.refl _ _) (fun b h _ => (r2 b).1 h) (fun _ _ h => h)
      · rw [q3 id (by omega) (by omega)]; exact hρ id hid
      · rw [hset] at hl
        split at hl
        · cases hl
        · rename_i hne
          rw [q3 _ (by omega) (by omega)]; exact hfr j hj hl
end
end Go.Proofs.Ytnbbnedpjfanoaa
