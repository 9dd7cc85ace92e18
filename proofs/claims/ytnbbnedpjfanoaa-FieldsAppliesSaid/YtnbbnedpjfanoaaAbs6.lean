/-
  A VALUE CALCULUS OVER THE MODEL, part 6: calls by what a function answers; what a function answers, out of its code. Plain lemmas, over any program.
-/
import Derived.Test.YtnbbnedpjfanoaaAbs5
set_option linter.unusedVariables false
set_option linter.unusedSimpArgs false
set_option linter.unusedVariables false
namespace Go.Proofs.Ytnbbnedpjfanoaa
open Go.RowKit
section
variable {P : Program} {n0 : Nat}

/-! ### A value as data -/
def snapV (heap : List (Nat × Option Blk)) : V → Option V
  | .lit u => some (.lit u)
  | .ro l => some (.ro l)
  | .own id => match getH heap id with
    | some (.row _ _ l) => some (.ro l)
    | some (.fro l) => some (.ro l)
    | _ => none
  | .rp cs => some (.rp cs)
  | .agg cs => match snapL cs with
    | some cs' => some (.agg cs')
    | none => none
  | .tup cs => match snapL cs with
    | some cs' => some (.tup cs')
    | none => none
  | _ => none
where snapL : List V → Option (List V)
  | [] => some []
  | c :: cs => match snapV heap c, snapL cs with
    | some c', some cs' => some (c' :: cs')
    | _, _ => none

theorem snapL_spec {heap : List (Nat × Option Blk)} : ∀ {cs cs' : List V}, snapV.snapL heap cs = some cs' → cs'.length = cs.length ∧ ∀ j, j < cs.length → snapV heap (cAt cs j) = some (cAt cs' j)
  | [], cs', h => by
    simp only [snapV.snapL, Option.some.injEq] at h
    subst h
    exact ⟨rfl, fun j hj => by simp at hj⟩
  | c :: cs, cs', h => by
    simp only [snapV.snapL] at h
    split at h
    · rename_i c' cs'' h1 h2
      injection h with h; subst h
      obtain ⟨e1, e2⟩ := snapL_spec h2
      refine ⟨by simp [e1], fun j hj => ?_⟩
      cases j with
      | zero => simpa [cAt] using h1
      | succ j =>
        have := e2 j (by simpa using hj)
        simpa [cAt] using this
    · cases h

theorem row_ro {S S' : Nat → Prop} {w : World} {base : Nat} {e s : Nat} {v : Value} {xs : List Value} {l : List (List V)} (h0 : 0 < s) (h2 : w.ownsRow base e s v l.length xs) (h3 : ∀ i, i < l.length → (eAt l i).length = s)
    (h4 : ∀ i j, i < l.length → j < s → ∃ u, xs[i * s + j]? = some u ∧ PRel S w (cAt (eAt l i) j) u ∧ u.oneCell' = true) (hS : ∀ b, S b → b < w.heap.size → S' b) (hb : ∀ b, blockOf v = some b → S' b) : PRel S' w (.ro l) v := by
  have hrel : ∀ i j, i < l.length → j < s → PRel S' w (cAt (eAt l i) j) (xs.getD (i * s + j) undef) := fun i j hi hj => by
    obtain ⟨u, hu, hp, _⟩ := h4 i j hi hj
    have : xs.getD (i * s + j) undef = u := by rw [List.getD_eq_getElem?_getD, hu]; rfl
    rw [this]; exact hp.mono (Same.refl _ _) hS
  rcases h2.2 with ⟨rfl, hl⟩ | ⟨g, cap, cur, rfl, hbg, hg, hnc, hcm, hcs, htake⟩
  · have hn : l.length = 0 := hl
    have : PRel S' w (.ro l) (.slice none l.length 0) := .ro l none 0 s 0 0 (fun i j => xs.getD (i * s + j) undef) (by omega) (by unfold maxLen; omega) h0 (fun h => by omega) h3 (fun i j hi => by omega) hrel
    rwa [hn] at this
  · refine .ro l _ cap s g 0 (fun i j => xs.getD (i * s + j) undef) hnc hcm h0 (fun _ => ⟨rfl, hb g rfl⟩) h3 (fun i j hi hj => ?_) hrel
    obtain ⟨u, hu, hp, _⟩ := h4 i j hi hj
    have e1 : xs.getD (i * s + j) undef = u := by rw [List.getD_eq_getElem?_getD, hu]; rfl
    rw [e1, Nat.zero_add]
    exact row_cell h2 rfl hu

theorem snap_spec {F : Nat → Prop} {base : Nat → Prop} {ρ : Nat → Option Value} {heap : List (Nat × Option Blk)} {next : Nat} {w0 w : World} (hH : HRel F base ρ heap next w0 w) {S' : Nat → Prop} (hS : ∀ b, Stab F ρ heap b → b < w.heap.size → S' b)
    (ho : ∀ b, base b → b < w.heap.size → S' b) {v : V} {u : Value} (h : VRel ρ (Stab F ρ heap) w v u) : ∀ {v'}, snapV heap v = some v' → VRel (fun _ => none) S' w v' u := by
  induction h with
  | pure h =>
    intro v' hv
    have hp := h.mono (Same.refl _ _) hS
    cases h with
    | lit => simp only [snapV, Option.some.injEq] at hv; subst hv; exact .pure hp
    | ro => simp only [snapV, Option.some.injEq] at hv; subst hv; exact .pure hp
  | @own id u h =>
    intro v' hv
    simp only [snapV] at hv
    split at hv
    · rename_i e s l hh
      injection hv with hv; subst hv
      obtain ⟨h0, v, xs, h1, ⟨h2, _⟩, h3, h4⟩ := hH.blk _ _ hh
      rw [h] at h1; injection h1 with h1; subst h1
      exact .pure (row_ro h0 h2 h3 h4 hS (fun b hb => by have := hH.owned hh rfl h hb; exact ho b this.1 this.2))
    · rename_i l hh
      injection hv with hv; subst hv
      obtain ⟨v, h1, h2, _⟩ := hH.blk _ _ hh
      rw [h] at h1; injection h1 with h1; subst h1
      exact .pure (h2.mono (Same.refl _ _) hS)
    · cases hv
  | ptr => intro v' hv; simp [snapV] at hv
  | rp us hSb hc hr =>
    intro v' hv
    simp only [snapV, Option.some.injEq] at hv; subst hv
    exact .rp us (fun h => hS _ (hSb h) (cell_lt (hc 0 h))) hc (fun j hj => (hr j hj).mono (Same.refl _ _) hS)
  | agg hn h ih =>
    intro v' hv
    simp only [snapV] at hv
    split at hv
    · rename_i cs' hcs
      injection hv with hv; subst hv
      obtain ⟨e1, e2⟩ := snapL_spec hcs
      exact .agg (by rw [e1]; exact hn) (fun j hj => ih j (by omega) (e2 j (by omega)))
    · cases hv
  | tup hn h ih =>
    intro v' hv
    simp only [snapV] at hv
    split at hv
    · rename_i cs' hcs
      injection hv with hv; subst hv
      obtain ⟨e1, e2⟩ := snapL_spec hcs
      exact .tup (by rw [e1]; exact hn) (fun j hj => ih j (by omega) (e2 j (by omega)))
    · cases hv
  | clo => intro v' hv; simp [snapV] at hv
  | any => intro v' hv; simp [snapV] at hv
  | und => intro v' hv; simp [snapV] at hv

/-! ### Calls -/
def argsE (env : List (Nat × V)) : List Operand → Option (List V)
  | [] => some []
  | x :: xs => match opE env x, argsE env xs with
    | some v, some vs => some (v :: vs)
    | _, _ => none
theorem argsE_spec {ρ : Nat → Option Value} {S : Nat → Prop} {w : World} {nt : Nat} {env : List (Nat × V)} {a : Act} (hE : ERel ρ S w nt env a) : ∀ {xs : List Operand} {vs : List V}, argsE env xs = some vs → vs.length = xs.length ∧ ∀ j, j < vs.length → VRel ρ S w (cAt vs j) ((xs.map a.eval).getD j undef)
  | [], vs, h => by
    simp only [argsE, Option.some.injEq] at h
    subst h
    exact ⟨rfl, fun j hj => by simp at hj⟩
  | x :: xs, vs, h => by
    simp only [argsE] at h
    split at h
    · rename_i v vs' h1 h2
      injection h with h; subst h
      obtain ⟨e1, e2⟩ := argsE_spec hE h2
      refine ⟨by simp [e1], fun j hj => ?_⟩
      cases j with
      | zero => simpa [cAt] using opE_sound hE h1
      | succ j =>
        have := e2 j (by simpa using hj)
        simpa [cAt] using this
    · cases h

/-- data alone, nothing of the call's own, and no slice: whatever is done to what it came from, it stays -/
def flatV : V → Bool
  | .lit _ => true
  | .agg cs => flatL cs
  | .tup cs => flatL cs
  | _ => false
where flatL : List V → Bool
  | [] => true
  | c :: cs => flatV c && flatL cs
theorem flatL_spec : ∀ {cs : List V}, flatV.flatL cs = true → ∀ j, j < cs.length → flatV (cAt cs j) = true
  | [], _, j, h => by simp at h
  | c :: cs, h, 0, _ => by simp only [flatV.flatL, Bool.and_eq_true] at h; exact h.1
  | c :: cs, h, j + 1, hj => by
    simp only [flatV.flatL, Bool.and_eq_true] at h
    have := flatL_spec h.2 j (by simpa using hj)
    simpa [cAt] using this
theorem flat_any {ρ ρ' : Nat → Option Value} {S S' : Nat → Prop} {w w' : World} {v : V} {u : Value} (h : VRel ρ S w v u) : flatV v = true → VRel ρ' S' w' v u := by
  induction h with
  | pure h =>
    cases h with
    | lit _ h => exact fun _ => .pure (.lit _ h)
    | ro => intro h; cases h
  | agg hn h ih => exact fun hb => .agg hn (fun j hj => ih j hj (flatL_spec hb j hj))
  | tup hn h ih => exact fun hb => .tup hn (fun j hj => ih j hj (flatL_spec hb j hj))
  | _ => intro h; cases h

theorem call_common {o : Oper} {st : St} {f : FuncId} {xs : Array Operand} {ts : Array TypeId} {vs vs' : List V} {r : V} {S : World → (Nat → Option Value) → (Nat → Prop) → Nat → Prop} (ho : o.op = .call { callee := .value (.func f), args := xs, argTypes := ts }) (hdn : dstOk st.nt o.dst = true) (hf : Fn P f vs' r)
    (hx : argsE st.env xs.toList = some vs) (hlen : vs'.length = vs.length)
    (hS : ∀ F base w0 ρ w, HRel F base ρ st.heap st.next w0 w → (∀ b, w.heap.size ≤ b → S w ρ F b) ∧ (∀ j u, j < vs.length → VRel ρ (Stab F ρ st.heap) w (cAt vs j) u → VRel (fun _ => none) (S w ρ F) w (cAt vs' j) u) ∧ ∀ w' v, Below w.heap.size w w' → VRel (fun _ => none) (S w ρ F) w' r v → VRel ρ (Stab F ρ st.heap) w' r v) :
    GStep P n0 o st (st.put o.dst r) := fun F base w0 ρ a w hH hE => by
  obtain ⟨g1, g2, g3⟩ := hS F base w0 ρ w hH
  obtain ⟨e1, e2⟩ := argsE_spec hE hx
  unfold Oper.wp
  rw [run_call ho hf.1 a w, Oper.upon_enter]
  have hsz : (xs.map a.eval).size = vs'.length := by
    rw [hlen, e1]; simp
  refine (hf.2 w (S w ρ F) (xs.map a.eval) hsz g1 (fun j hj => ?_)).mono ?_
  · rw [hlen] at hj
    have h := e2 j hj
    have e3 : (xs.toList.map a.eval).getD j undef = (xs.map a.eval).getD j undef := by
      rw [List.getD_eq_getElem?_getD, Array.getD_eq_getD_getElem?, ← Array.toList_map]
      simp
    rw [e3] at h
    exact g2 j _ hj h
  · rintro e w' ⟨v, rfl, hb, hv⟩
    obtain ⟨p1, p2⟩ := put_heap st o.dst r
    have hs : Same (Stab F ρ st.heap) w w' := fun b _ hlt => hb.block b hlt
    refine ⟨ρ, by rw [p1, p2]; exact hH.grow hb, by rw [p1]; exact (hE.mono hs (fun b h _ => h) (fun _ _ h => h)).putD hdn (g3 w' v hb hv), fun _ _ h => h, fun _ _ => rfl⟩

theorem stab_new {F : Nat → Prop} {base : Nat → Prop} {ρ : Nat → Option Value} {heap : List (Nat × Option Blk)} {next : Nat} {w0 w : World} (hH : HRel F base ρ heap next w0 w) {b : Nat} (hb : w.heap.size ≤ b) : Stab F ρ heap b :=
  ⟨hH.hF b (hH.hbase b hb), fun id B u hB ho hu hbb => by have := (hH.owned hB ho hu hbb).2; omega⟩
/-- a call whose arguments are data -/
theorem g_call {o : Oper} {st : St} {f : FuncId} {xs : Array Operand} {ts : Array TypeId} {vs : List V} {r : V} (ho : o.op = .call { callee := .value (.func f), args := xs, argTypes := ts }) (hdn : dstOk st.nt o.dst = true)
    (hx : argsE st.env xs.toList = some vs) (hb : belowV.belowL 0 vs = true) (hf : Fn P f vs r) : GStep P n0 o st (st.put o.dst r) :=
  call_common (S := fun w ρ F => Stab F ρ st.heap) ho hdn hf hx rfl fun F base w0 ρ w hH => ⟨fun b hb => stab_new hH hb, fun j u hj h => (h.cut (belowL_spec hb j hj)).mono (Same.refl _ _) (fun b h _ => h) (fun id u h => by have := (cutρ_some h).2; omega),
    fun w' v hb' h => h.mono (Same.refl _ _) (fun b h _ => h) (fun id u h => by cases h)⟩
/-- a call to which things of the call's own are handed, for reading, and which answers without memory -/
theorem g_call_snap {o : Oper} {st : St} {f : FuncId} {xs : Array Operand} {ts : Array TypeId} {vs vs' : List V} {r : V} (ho : o.op = .call { callee := .value (.func f), args := xs, argTypes := ts }) (hdn : dstOk st.nt o.dst = true)
    (hx : argsE st.env xs.toList = some vs) (hs : snapV.snapL st.heap vs = some vs') (hf : Fn P f vs' r) (hr : flatV r = true) : GStep P n0 o st (st.put o.dst r) := by
  obtain ⟨e1, e2⟩ := snapL_spec hs
  exact call_common (S := fun w ρ F _ => True) ho hdn hf hx e1 fun F base w0 ρ w hH => ⟨fun b hb => trivial, fun j u hj h => snap_spec hH (fun _ _ _ => trivial) (fun _ _ _ => trivial) h (e2 j hj), fun w' v hb' h => flat_any h hr⟩

/-! ### To say less of a value: no elements at all -/
mutual
inductive Wk : V → V → Prop
  | refl (v : V) : Wk v v
  | nil : Wk (.lit (.slice none 0 0)) (.ro [])
  | agg {cs ds : List V} (h : WkL cs ds) : Wk (.agg cs) (.agg ds)
  | tup {cs ds : List V} (h : WkL cs ds) : Wk (.tup cs) (.tup ds)
inductive WkL : List V → List V → Prop
  | nil : WkL [] []
  | cons {c d : V} {cs ds : List V} (h : Wk c d) (hs : WkL cs ds) : WkL (c :: cs) (d :: ds)
end
theorem cAt_zero (c : V) (cs : List V) : cAt (c :: cs) 0 = c := rfl
theorem cAt_succ (c : V) (cs : List V) (j : Nat) : cAt (c :: cs) (j + 1) = cAt cs j := by simp [cAt]
mutual
theorem Wk.rel {ρ : Nat → Option Value} {S : Nat → Prop} {w : World} : ∀ {v v' : V}, Wk v v' → ∀ {u : Value}, VRel ρ S w v u → VRel ρ S w v' u
  | _, _, .refl v, u, h => h
  | _, _, .nil, u, h => by
    rw [lit_inv h]
    exact .pure (.ro [] none 0 1 0 0 (fun _ _ => undef) (by simp) (by unfold maxLen; omega) (by omega) (fun h => by simp at h) (fun i hi => by simp at hi) (fun i j hi => by simp at hi) (fun i j hi => by simp at hi))
  | _, _, .agg hs, u, h => by
    have hl := WkL.rel (ρ := ρ) (S := S) (w := w) hs
    cases h with
    | pure h => cases h
    | agg hn h => exact .agg (by rw [hn, hl.1]) (fun j hj => hl.2 j (by rw [hl.1]; exact hj) (h j (by rw [hl.1]; exact hj)))
  | _, _, .tup hs, u, h => by
    have hl := WkL.rel (ρ := ρ) (S := S) (w := w) hs
    cases h with
    | pure h => cases h
    | tup hn h => exact .tup (by rw [hn, hl.1]) (fun j hj => hl.2 j (by rw [hl.1]; exact hj) (h j (by rw [hl.1]; exact hj)))
theorem WkL.rel {ρ : Nat → Option Value} {S : Nat → Prop} {w : World} : ∀ {cs ds : List V}, WkL cs ds → cs.length = ds.length ∧ ∀ j, j < cs.length → ∀ {u : Value}, VRel ρ S w (cAt cs j) u → VRel ρ S w (cAt ds j) u
  | _, _, .nil => ⟨rfl, fun j hj => by simp at hj⟩
  | _, _, .cons h hs => by
    have hl := WkL.rel (ρ := ρ) (S := S) (w := w) hs
    refine ⟨by simp [hl.1], fun j hj u hu => ?_⟩
    cases j with
    | zero => exact Wk.rel h hu
    | succ j =>
      rw [cAt_succ] at hu ⊢
      exact hl.2 j (by simpa using hj) hu
end
theorem fn_weak {f : FuncId} {vs vs' : List V} {r : V} (hf : Fn P f vs' r) (hw : WkL vs vs') : Fn P f vs r :=
  ⟨hf.1, fun w S vals hsz hS hargs => by
    have hl := fun j => (WkL.rel (ρ := fun _ => none) (S := S) (w := w) hw).2 j
    have he := (WkL.rel (ρ := fun _ => none) (S := S) (w := w) hw).1
    exact hf.2 w S vals (by rw [hsz, he]) hS (fun j hj => hl j (by rw [he]; exact hj) (hargs j (by rw [he]; exact hj)))⟩

/-! ### A function, out of its code -/
def paramsE : Nat → List V → List (Nat × V)
  | _, [] => []
  | k, v :: vs => (k, v) :: paramsE (k + 1) vs
theorem paramsE_spec : ∀ (k : Nat) (vs : List V) (t : Nat) (v : V), getE (paramsE k vs) t = some v → k ≤ t ∧ t - k < vs.length ∧ v = cAt vs (t - k)
  | k, [], t, v, h => by simp [paramsE, getE] at h
  | k, x :: vs, t, v, h => by
    simp only [paramsE, getE] at h
    cases hb : Nat.beq k t with
    | true =>
      rw [hb] at h
      have := Nat.eq_of_beq_eq_true hb
      subst this
      simp only [cond_true, Option.some.injEq] at h
      subst h
      exact ⟨Nat.le_refl _, by simp, by simp [cAt]⟩
    | false =>
      rw [hb] at h
      have hne : k ≠ t := fun e => by rw [e] at hb; simp at hb
      obtain ⟨h1, h2, h3⟩ := paramsE_spec (k + 1) vs t v h
      refine ⟨by omega, by simp; omega, ?_⟩
      rw [h3]
      have : t - k = (t - (k + 1)) + 1 := by omega
      rw [this]; simp [cAt]

/-- what stands behind an address of a box -/
def readBox (P : Program) (st : St) (T : TypeId) : V → Option V
  | .ptr id 0 _ j => match getH st.heap id with
    | some (.box _ cs) => match aggT P T with
      | some true => match sizeT P T with
        | some n => bif Nat.ble n (cs.drop j).length then some (.agg ((cs.drop j).take n)) else none
        | none => none
      | some false => (cs.drop j)[0]?
      | none => none
    | _ => none
  | _ => none
def resE (P : Program) (st : St) : List ResultVar → Option (List V)
  | [] => some []
  | .tmp t :: rs => match getE st.env t, resE P st rs with
    | some v, some vs => some (v :: vs)
    | _, _ => none
  | .cell a T :: rs => match getE st.env a with
    | some p => match readBox P st T p, resE P st rs with
      | some v, some vs => some (v :: vs)
      | _, _ => none
    | none => none
def resV (P : Program) (st : St) (rs : List ResultVar) : Option V :=
  match resE P st rs with
  | some [v] => some v
  | some vs => some (.tup vs)
  | none => none

theorem readBox_spec {F : Nat → Prop} {base : Nat → Prop} {ρ : Nat → Option Value} {w0 w : World} {st : St} {T : TypeId} {p v : V} {u : Value} (hH : HRel F base ρ st.heap st.next w0 w) (hp : VRel ρ (Stab F ρ st.heap) w p u) (h : readBox P st T p = some v) :
    ∃ r, (loadVar T ⟨(match u with | .pointer (some a) => a.block | _ => 0), (match u with | .pointer (some a) => a.off | _ => 0), none⟩).run P w = .ok r w ∧ VRel ρ (Stab F ρ st.heap) w v r ∧ ∃ b off, u = .pointer (some ⟨b, off, none⟩) := by
  unfold readBox at h
  split at h
  · rename_i id s j
    split at h
    · rename_i t cs hh
      obtain ⟨b, off, us, h1, h2, h3⟩ := reads_box (G := []) (st := st) (s := s) (j := j) hh rfl F base w0 ρ w u hH.toHRel0 rfl hp
      subst h1
      split at h
      · rename_i hT
        split at h
        · rename_i n hn
          cases hb : Nat.ble n (cs.drop j).length with
          | false => rw [hb] at h; cases h
          | true =>
            rw [hb] at h
            simp only [cond_true, Option.some.injEq] at h
            subst h
            have hle := Nat.le_of_ble_eq_true hb
            have := run_load_agg (P := P) (T := T) (n := n) hT hn (b := b) (off := off) (us := (Array.range n).map us) (w := w) (by simp) (fun k hk => by
              rw [h3 w (Ext.refl _ _) k (by omega)]; simp [hk])
            simp only [Instr.loadAt, Instr.sureAddr, Sem.run_bind, Sem.run_pure, Result.andThen_ok] at this
            refine ⟨_, this, .agg (by simp; simp at hle; omega) (fun k hk => ?_), b, off, rfl⟩
            simp only [List.length_take] at hk
            have e1 : cAt ((cs.drop j).take n) k = cAt (cs.drop j) k := by unfold cAt; rw [List.getD_eq_getElem?_getD, List.getD_eq_getElem?_getD, List.getElem?_take, if_pos (by omega)]
            have e2 : ((Array.range n).map us).getD k undef = us k := by simp [show k < n by omega]
            rw [e1, e2]
            exact h2 k (by omega)
        · cases h
      · rename_i hT
        have hlt : 0 < (cs.drop j).length := (List.getElem?_eq_some_iff.1 h).1
        have e : cAt (cs.drop j) 0 = v := by unfold cAt; rw [List.getD_eq_getElem?_getD, h]; rfl
        have := h3 w (Ext.refl _ _) 0 hlt
        simp only [Nat.add_zero] at this
        have hr := run_load_one (P := P) (T := T) hT this
        simp only [Instr.loadAt, Instr.sureAddr, Sem.run_bind, Sem.run_pure, Result.andThen_ok] at hr
        exact ⟨_, hr, by rw [← e]; exact h2 0 hlt, b, off, rfl⟩
      · cases h
    · cases h
  · cases h

def resOf (tmps : Array Value) : ResultVar → Sem Value
  | .tmp t => pure (tmps.getD t undef)
  | .cell b t => asAddr (tmps.getD b undef) >>= loadVar t
theorem results_eq (fn : Func) (tmps : Array Value) : results fn tmps = (fn.results.mapM (resOf tmps) >>= fun vs => pure (if h : vs.size = 1 then vs[0] else .tuple vs)) := by
  unfold results
  congr 1
theorem resE_spec {F : Nat → Prop} {base : Nat → Prop} {ρ : Nat → Option Value} {w0 w : World} {st : St} {a : Act} (hH : HRel F base ρ st.heap st.next w0 w) (hE : ERel ρ (Stab F ρ st.heap) w st.nt st.env a) : ∀ {rs : List ResultVar} {vs : List V}, resE P st rs = some vs →
    ∃ us : List Value, us.length = vs.length ∧ (rs.mapM (resOf a.tmps)).run P w = .ok us w ∧ ∀ j, j < vs.length → VRel ρ (Stab F ρ st.heap) w (cAt vs j) (us.getD j undef)
  | [], vs, h => by
    simp only [resE, Option.some.injEq] at h
    subst h
    exact ⟨[], rfl, by simp [Sem.run_pure], fun j hj => by simp at hj⟩
  | .tmp t :: rs, vs, h => by
    simp only [resE] at h
    split at h
    · rename_i v vs' h1 h2
      injection h with h; subst h
      obtain ⟨us, e1, e2, e3⟩ := resE_spec hH hE h2
      refine ⟨a.tmps.getD t undef :: us, by simp [e1], by simp only [List.mapM_cons, resOf, Sem.run_bind, Sem.run_pure, Result.andThen_ok, e2], fun j hj => ?_⟩
      cases j with
      | zero => simpa [cAt] using hE.slot t v h1
      | succ j =>
        have := e3 j (by simpa using hj)
        simpa [cAt] using this
    · cases h
  | .cell b T :: rs, vs, h => by
    simp only [resE] at h
    split at h
    · rename_i p hp
      split at h
      · rename_i v vs' h1 h2
        injection h with h; subst h
        obtain ⟨us, e1, e2, e3⟩ := resE_spec hH hE h2
        obtain ⟨r, g1, g2, b', off, g3⟩ := readBox_spec (P := P) hH (hE.slot b p hp) h1
        rw [g3] at g1
        refine ⟨r :: us, by simp [e1], ?_, fun j hj => ?_⟩
        · have hr : (resOf a.tmps (.cell b T)).run P w = .ok r w := by
            simp only [resOf, g3, asAddr, Sem.run_bind, Sem.run_pure, Result.andThen_ok]
            exact g1
          simp only [List.mapM_cons, Sem.run_bind, hr, Sem.run_pure, Result.andThen_ok, e2]
        · cases j with
          | zero => simpa [cAt] using g2
          | succ j =>
            have := e3 j (by simpa using hj)
            simpa [cAt] using this
      · cases h
    · cases h

theorem resV_spec {fn : Func} {F : Nat → Prop} {base : Nat → Prop} {ρ : Nat → Option Value} {w0 w : World} {st : St} {a : Act} {v : V} (hH : HRel F base ρ st.heap st.next w0 w) (hE : ERel ρ (Stab F ρ st.heap) w st.nt st.env a) (h : resV P st fn.results.toList = some v) :
    ∃ u, (results fn a.tmps).run P w = .ok u w ∧ VRel ρ (Stab F ρ st.heap) w v u := by
  unfold resV at h
  cases hr : resE P st fn.results.toList with
  | none => rw [hr] at h; cases h
  | some vs =>
    obtain ⟨us, e1, e2, e3⟩ := resE_spec hH hE hr
    have hrun : (results fn a.tmps).run P w = .ok (if h : us.toArray.size = 1 then us.toArray[0] else .tuple us.toArray) w := by
      rw [results_eq, Array.mapM_eq_mapM_toList]
      simp only [Sem.run_bind, Sem.run_map, e2, Result.andThen_ok, Sem.run_pure]
    rw [hr] at h
    refine ⟨_, hrun, ?_⟩
    by_cases h1 : vs.length = 1
    · obtain ⟨x, rfl⟩ := List.length_eq_one_iff.1 h1
      simp only [Option.some.injEq] at h
      subst h
      obtain ⟨y, rfl⟩ := List.length_eq_one_iff.1 (e1.trans h1)
      simpa [cAt] using e3 0 (by simp)
    · have hv : v = .tup vs := by
        match vs, h1, h with
        | [], _, h => injection h with h; exact h.symm
        | [x], h1, _ => exact absurd rfl h1
        | x :: y :: r, _, h => injection h with h; exact h.symm
      subst hv
      have hne : ¬ us.toArray.size = 1 := by simp; omega
      rw [dif_neg hne]
      exact .tup (by simp [e1]) (fun j hj => by have := e3 j hj; simpa using this)

/-- the end of a function: what it answers, as data -/
def Ends (P : Program) (fn : Func) (r : V) (e : Exit) (st : St) : Prop :=
  (e = .ret ∨ e = .normal) ∧ ∃ v r', resV P st fn.results.toList = some v ∧ snapV st.heap v = some r' ∧ Wk r' r
theorem fn_of_run {f : FuncId} {fn : Func} {c : Code} {args : List V} {r : V} (hok : fnOk P f = true) (hf : P.funcs[f]? = some fn) (hb : fn.body = some c) (hn : Nat.ble args.length fn.ntmps = true)
    (h : Run P 0 c ⟨paramsE 0 args, [], 0, fn.ntmps⟩ (Ends P fn r)) : Fn P f args r := by
  refine ⟨hok, fun w S vals hsz hS hargs => calls_of_wp hf hb ?_⟩
  have hn := Nat.le_of_ble_eq_true hn
  have hH : HRel S (fun b => w.heap.size ≤ b) (fun _ => none) [] 0 w w :=
    { below := Frm.refl _ _
      hbase := fun b hb => hb
      hF := hS
      sup := fun id u h => by cases h
      inj := fun id id' B B' u u' b h => by cases h
      blk := fun id B h => by cases h }
  have hstab : ∀ b, Stab S (fun _ => none) [] b ↔ S b := fun b => ⟨fun h => h.1, fun h => ⟨h, fun id B u hB => by simp [getH] at hB⟩⟩
  have hE : ERel (fun _ => none) (Stab S (fun _ => none) []) w fn.ntmps (paramsE 0 args) { tmps := vals ++ Array.replicate (fn.ntmps - vals.size) undef, defers := [] } := by
    refine ⟨by simp; omega, rfl, fun t v hv => ?_⟩
    obtain ⟨_, h2, rfl⟩ := paramsE_spec 0 args t v hv
    rw [Nat.sub_zero] at *
    have := hargs t h2
    have e : (vals ++ Array.replicate (fn.ntmps - vals.size) undef).getD t undef = vals.getD t undef := by
      simp [Array.getElem?_append, show t < vals.size by omega]
    rw [e]
    exact this.mono (Same.refl _ _) (fun b h _ => (hstab b).2 h) (fun _ _ h => h)
  refine wp_mono (h S (fun b => w.heap.size ≤ b) w (fun _ => none) _ w hH hE) ?_
  rintro e a' w' ⟨ρ', st', ⟨he, v, r', hv, hr, hwk⟩, h1, h2, _⟩
  obtain ⟨u, g1, g2⟩ := resV_spec (fn := fn) h1 h2 hv
  have hfin : VRel (fun _ => none) S w' r u := hwk.rel (snap_spec h1 (fun b h _ => h.1) (fun b h _ => hS b h) g2 hr)
  rcases he with rfl | rfl
  · exact ⟨h2.defers, u, g1, u, rfl, h1.below.to_below, hfin⟩
  · exact ⟨h2.defers, u, g1, u, rfl, h1.below.to_below, hfin⟩
end
end Go.Proofs.Ytnbbnedpjfanoaa
