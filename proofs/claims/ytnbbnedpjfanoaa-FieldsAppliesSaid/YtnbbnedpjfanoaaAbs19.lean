/-
  A VALUE CALCULUS OVER THE MODEL, part 19: functions to which memory is handed, and which hand memory back. Plain lemmas, over any program.
-/
import Derived.Test.YtnbbnedpjfanoaaAbs18
set_option linter.unusedVariables false
set_option linter.unusedSimpArgs false
set_option linter.unusedVariables false
namespace Go.Proofs.Ytnbbnedpjfanoaa
open Go.RowKit
section
variable {P : Program} {n0 : Nat}

/-- what a function does with memory h0 (numbers below k0): it answers r, and leaves h1 (numbers below k1) -/
def FnM (P : Program) (f : FuncId) (args : List V) (h0 : List (Nat × Option Blk)) (k0 : Nat) (r : V) (h1 : List (Nat × Option Blk)) (k1 : Nat) : Prop :=
  fnOk P f = true ∧ k0 ≤ k1 ∧ ∀ (F base : Nat → Prop) (w0 : World) (ρ : Nat → Option Value) (w : World) (vals : Array Value), vals.size = args.length → HRel F base ρ h0 k0 w0 w → (∀ j, j < args.length → VRel ρ (Stab F ρ h0) w (cAt args j) (vals.getD j undef)) →
    Calls P f vals w fun e w' => ∃ v ρ', e = .returned v ∧ HRel F base ρ' h1 k1 w0 w' ∧ VRel ρ' (Stab F ρ' h1) w' r v ∧ ∀ id, id < k0 → ρ' id = ρ id
def EndsM (P : Program) (fn : Func) (k0 : Nat) (r : V) (h1 : List (Nat × Option Blk)) (k1 : Nat) (e : Exit) (st : St) : Prop :=
  (e = .ret ∨ e = .normal) ∧ ∃ v r' L, resV P st fn.results.toList = some v ∧ okP k0 k1 L = true ∧ sv (invL L) st.heap v = some r' ∧ Wk r' r ∧ coverRH L st.heap h1
theorem fnm_of_run {f : FuncId} {fn : Func} {c : Code} {args : List V} {h0 h1 : List (Nat × Option Blk)} {k0 k1 : Nat} {r : V} (hok : fnOk P f = true) (hf : P.funcs[f]? = some fn) (hb : fn.body = some c) (hn : Nat.ble args.length fn.ntmps = true) (hk : Nat.ble k0 k1 = true)
    (h : Run P k0 c ⟨paramsE 0 args, h0, k0, fn.ntmps⟩ (EndsM P fn k0 r h1 k1)) : FnM P f args h0 k0 r h1 k1 := by
  refine ⟨hok, Nat.le_of_ble_eq_true hk, fun F base w0 ρ w vals hsz hH hargs => calls_of_wp hf hb ?_⟩
  have hn := Nat.le_of_ble_eq_true hn
  have hE : ERel ρ (Stab F ρ h0) w fn.ntmps (paramsE 0 args) { tmps := vals ++ Array.replicate (fn.ntmps - vals.size) undef, defers := [] } := by
    refine ⟨by simp; omega, rfl, fun t v hv => ?_⟩
    obtain ⟨_, h2, rfl⟩ := paramsE_spec 0 args t v hv
    rw [Nat.sub_zero] at *
    have := hargs t h2
    have e : (vals ++ Array.replicate (fn.ntmps - vals.size) undef).getD t undef = vals.getD t undef := by
      simp [Array.getElem?_append, show t < vals.size by omega]
    rw [e]
    exact this
  refine wp_mono (h F base w0 ρ _ w hH hE) ?_
  rintro e a' w' ⟨ρ', st', ⟨he, v, r', L, hv, hL, hr, hwk, hhp⟩, h1', h2, h3⟩
  obtain ⟨u, g1, g2⟩ := resV_spec (fn := fn) h1' h2 hv
  have hren := okP_ren hL
  have hh := coverRH_spec hhp
  have hfin := hwk.rel (sv_spec hren h1' hh g2 hr)
  have hres : ∃ v_1 ρ'', (Exit.ret = Exit.ret → True) ∧ HRel F base ρ'' h1 k1 w0 w' ∧ VRel ρ'' (Stab F ρ'' h1) w' r v_1 ∧ ∀ id, id < k0 → ρ'' id = ρ id :=
    ⟨u, renρ ρ' (invL L) (mpL L), fun _ => trivial, ren_heap hren h1' hh, hfin, fun id hid => (renρ_of hren (hren.low hid)).trans (h3 id hid)⟩
  rcases he with rfl | rfl
  · exact ⟨h2.defers, u, g1, u, _, rfl, ren_heap hren h1' hh, hfin, fun id hid => (renρ_of hren (hren.low hid)).trans (h3 id hid)⟩
  · exact ⟨h2.defers, u, g1, u, _, rfl, ren_heap hren h1' hh, hfin, fun id hid => (renρ_of hren (hren.low hid)).trans (h3 id hid)⟩
/-- the same with other numbers, or with data in place of what is handed back -/
theorem fnm_ren {f : FuncId} {args : List V} {h0 h1 h2 : List (Nat × Option Blk)} {k0 k1 k2 : Nat} {r r' : V} (hf : FnM P f args h0 k0 r h1 k1) (L : List (Nat × Nat)) (hL : okP k0 k2 L = true) (hr : sv (invL L) h1 r = some r') (hh : coverRH L h1 h2) : FnM P f args h0 k0 r' h2 k2 :=
  ⟨hf.1, (okP_ren hL).le, fun F base w0 ρ w vals hsz hH hargs => (hf.2.2 F base w0 ρ w vals hsz hH hargs).mono fun e w' ⟨v, ρ', he, q1, q2, q3⟩ =>
    ⟨v, renρ ρ' (invL L) (mpL L), he, ren_heap (okP_ren hL) q1 (coverRH_spec hh), sv_spec (okP_ren hL) q1 (coverRH_spec hh) q2 hr, fun id hid => (renρ_of (okP_ren hL) ((okP_ren hL).low hid)).trans (q3 id hid)⟩⟩
theorem fn_of_fnm {f : FuncId} {args : List V} {r : V} (hf : FnM P f args [] 0 r [] 0) : Fn P f args r := by
  refine ⟨hf.1, fun w S vals hsz hS hargs => ?_⟩
  have hstab : ∀ b, Stab S (fun _ => none) [] b ↔ S b := fun b => ⟨fun h => h.1, fun h => ⟨h, fun id B u hB => by simp [getH] at hB⟩⟩
  have hH : HRel S (fun b => w.heap.size ≤ b) (fun _ => none) [] 0 w w :=
    { below := Frm.refl _ _
      hbase := fun b hb => hb
      hF := hS
      sup := fun id u h => by cases h
      inj := fun id id' B B' u u' b h => by cases h
      blk := fun id B h => by cases h }
  refine (hf.2.2 S _ w _ w vals hsz hH (fun j hj => (hargs j hj).mono (Same.refl _ _) (fun b h _ => (hstab b).2 h) (fun _ _ h => h))).mono ?_
  rintro e w' ⟨v, ρ', he, q1, q2, _⟩
  refine ⟨v, he, q1.below.to_below, q2.mono (Same.refl _ _) (fun b h _ => h.1) (fun id u hu => ?_)⟩
  have := (q1.sup id u hu).1; omega

/-! ### The call of such a function -/
def fv (m : Nat → Nat) : V → V
  | .own id => .own (m id)
  | .ptr id i s j => .ptr (m id) i s j
  | .agg cs => .agg (fvL cs)
  | .tup cs => .tup (fvL cs)
  | .clo f cs => .clo f (fvL cs)
  | v => v
where fvL : List V → List V
  | [] => []
  | c :: cs => fv m c :: fvL cs
theorem fvL_len {m : Nat → Nat} : ∀ (cs : List V), (fv.fvL m cs).length = cs.length
  | [] => rfl
  | c :: cs => by simp only [fv.fvL, List.length_cons, fvL_len cs]
theorem fvL_at {m : Nat → Nat} : ∀ {cs : List V} {j : Nat}, j < cs.length → cAt (fv.fvL m cs) j = fv m (cAt cs j)
  | [], j, h => by simp at h
  | c :: cs, 0, _ => rfl
  | c :: cs, j + 1, h => by
    have := fvL_at (m := m) (cs := cs) (j := j) (by simpa using h)
    simpa [cAt, fv.fvL] using this
def fB (m : Nat → Nat) : Blk → Blk
  | .box t cs => .box t (fv.fvL m cs)
  | B => B
theorem fB_owns {m : Nat → Nat} {B : Blk} : (fB m B).owns = B.owns := by cases B <;> rfl
def fH (m : Nat → Nat) : List (Nat × Option Blk) → List (Nat × Option Blk)
  | [] => []
  | (id, B) :: r => (m id, B.map (fB m)) :: fH m r
def deadM : List Nat → List (Nat × Option Blk)
  | [] => []
  | i :: r => (i, none) :: deadM r
theorem getH_dead : ∀ (M : List Nat) (h : List (Nat × Option Blk)) (id : Nat), getH (deadM M ++ h) id = if id ∈ M then none else getH h id
  | [], h, id => by simp [deadM]
  | i :: r, h, id => by
    simp only [deadM, List.cons_append, getH_new, getH_dead r h id, List.mem_cons]
    by_cases e : i = id
    · subst e; simp
    · have e' : ¬ id = i := fun h => e h.symm
      simp [e, e']
theorem getH_fH_none {m : Nat → Nat} {k1 : Nat} : ∀ (h : List (Nat × Option Blk)) (H : List (Nat × Option Blk)) (x : Nat), (∀ i, i < k1 → m i ≠ x) → (∀ p ∈ h, p.1 < k1) → getH (fH m h ++ H) x = getH H x
  | [], H, x, _, _ => rfl
  | (id, B) :: r, H, x, hx, hk => by
    simp only [fH, List.cons_append, getH_new]
    rw [if_neg (hx id (hk (id, B) (List.mem_cons_self ..)))]
    exact getH_fH_none r H x hx (fun p hp => hk p (List.mem_cons_of_mem _ hp))
theorem getH_fH {m : Nat → Nat} {k1 : Nat} (hinj : ∀ i j, i < k1 → j < k1 → m i = m j → i = j) : ∀ (h : List (Nat × Option Blk)) (H : List (Nat × Option Blk)) (i : Nat), i < k1 → (∀ p ∈ h, p.1 < k1) → getH H (m i) = none → getH (fH m h ++ H) (m i) = (getH h i).map (fB m)
  | [], H, i, _, _, hn => by simp [fH, getH, hn]
  | (id, B) :: r, H, i, hi, hk, hn => by
    simp only [fH, List.cons_append, getH_new]
    by_cases e : id = i
    · subst e; simp
    · rw [if_neg (fun h => e (hinj _ _ (hk (id, B) (List.mem_cons_self ..)) hi h)), if_neg e]
      exact getH_fH hinj r H i hi (fun p hp => hk p (List.mem_cons_of_mem _ hp)) hn
/-- out of the caller's numbers into the callee's -/
theorem fv_down {ρ ρ' : Nat → Option Value} {S S' : Nat → Prop} {w : World} {m : Nat → Nat} (hS : ∀ b, S b → b < w.heap.size → S' b) (hρ : ∀ id u, ρ (m id) = some u → ρ' id = some u) : ∀ {v : V} {u : Value}, VRel ρ S w (fv m v) u → VRel ρ' S' w v u := by
  intro v u h
  generalize hx : fv m v = x at h
  induction h generalizing v with
  | @pure y u h =>
    have hv : v = y := by
      cases h <;> cases v <;> simp only [fv] at hx <;> first | exact hx | cases hx
    subst hv
    exact .pure (h.mono (Same.refl _ _) hS)
  | own h => cases v <;> simp only [fv] at hx <;> first | (injection hx with hx; subst hx; exact .own (hρ _ _ h)) | cases hx
  | ptr h hb => cases v <;> simp only [fv] at hx <;> first | (injection hx with h1 h2 h3 h4; subst h1 h2 h3 h4; exact .ptr (hρ _ _ h) hb) | cases hx
  | rp us hSb hc hr =>
    cases v <;> simp only [fv] at hx <;> first | (injection hx with hx; subst hx; exact .rp us (fun h => hS _ (hSb h) (cell_lt (hc 0 h))) hc (fun j hj => (hr j hj).mono (Same.refl _ _) hS)) | cases hx
  | agg hn h ih =>
    cases v <;> simp only [fv] at hx <;> first | (injection hx with hx; subst hx; rw [fvL_len] at hn; exact .agg hn (fun j hj => ih j (by rw [fvL_len]; exact hj) (fvL_at hj).symm)) | cases hx
  | tup hn h ih =>
    cases v <;> simp only [fv] at hx <;> first | (injection hx with hx; subst hx; rw [fvL_len] at hn; exact .tup hn (fun j hj => ih j (by rw [fvL_len]; exact hj) (fvL_at hj).symm)) | cases hx
  | clo hn h ih =>
    cases v <;> simp only [fv] at hx <;> first | (injection hx with h1 hx; subst h1 hx; rw [fvL_len] at hn; exact .clo hn (fun j hj => ih j (by rw [fvL_len]; exact hj) (fvL_at hj).symm)) | cases hx
  | any u => cases v <;> simp only [fv] at hx <;> first | exact .any u | cases hx
  | und => cases v <;> simp only [fv] at hx <;> first | exact .und | cases hx
/-- and back -/
theorem fv_up {ρ ρ' : Nat → Option Value} {S S' : Nat → Prop} {w : World} {m : Nat → Nat} (hS : ∀ b, S b → b < w.heap.size → S' b) (hρ : ∀ id u, ρ id = some u → ρ' (m id) = some u) {v : V} {u : Value} (h : VRel ρ S w v u) : VRel ρ' S' w (fv m v) u := by
  induction h with
  | @pure y u h =>
    have hv : fv m y = y := by cases h <;> rfl
    rw [hv]
    exact .pure (h.mono (Same.refl _ _) hS)
  | own h => exact .own (hρ _ _ h)
  | ptr h hb => exact .ptr (hρ _ _ h) hb
  | rp us hSb hc hr => exact .rp us (fun h => hS _ (hSb h) (cell_lt (hc 0 h))) hc (fun j hj => (hr j hj).mono (Same.refl _ _) hS)
  | agg hn h ih => exact .agg (by rw [fvL_len]; exact hn) (fun j hj => by rw [fvL_len] at hj; rw [fvL_at hj]; exact ih j hj)
  | tup hn h ih => exact .tup (by rw [fvL_len]; exact hn) (fun j hj => by rw [fvL_len] at hj; rw [fvL_at hj]; exact ih j hj)
  | clo hn h ih => exact .clo (by rw [fvL_len]; exact hn) (fun j hj => by rw [fvL_len] at hj; rw [fvL_at hj]; exact ih j hj)
  | any u => exact .any u
  | und => exact .und

/-- the callee's number, as the caller's: L: what it gets, and what is new; D: none of the caller's -/
def mM (L : List Nat) (D : Nat) (i : Nat) : Nat := L.getD i D
def nodupB : List Nat → Bool
  | [] => true
  | a :: l => !memI l a && nodupB l
theorem memI_of : ∀ {l : List Nat} {a : Nat}, a ∈ l → memI l a = true
  | [], a, h => by cases h
  | b :: l, a, h => by
    simp only [memI, Bool.or_eq_true]
    rcases List.mem_cons.1 h with rfl | h
    · exact .inl (Nat.beq_refl _)
    · exact .inr (memI_of h)
theorem getD_in {l : List Nat} {i : Nat} (h : i < l.length) : l.getD i 0 ∈ l := by rw [List.getD_eq_getElem?_getD, List.getElem?_eq_getElem h]; exact List.getElem_mem h
theorem nodupB_inj : ∀ {l : List Nat}, nodupB l = true → ∀ i j, i < l.length → j < l.length → l.getD i 0 = l.getD j 0 → i = j
  | [], _, i, j, hi, _, _ => by simp at hi
  | a :: l, h, i, j, hi, hj, he => by
    simp only [nodupB, Bool.and_eq_true, Bool.not_eq_true'] at h
    rcases i with _ | i
    · rcases j with _ | j
      · rfl
      · exfalso
        have hm : a ∈ l := by
          have := getD_in (l := l) (i := j) (by simpa using hj)
          have e : a = l.getD j 0 := by simpa using he
          rw [e]; exact this
        rw [memI_of hm] at h
        exact Bool.noConfusion h.1
    · rcases j with _ | j
      · exfalso
        have hm : a ∈ l := by
          have := getD_in (l := l) (i := i) (by simpa using hi)
          have e : l.getD i 0 = a := by simpa using he
          rw [← e]; exact this
        rw [memI_of hm] at h
        exact Bool.noConfusion h.1
      · rw [nodupB_inj h.2 i j (by simpa using hi) (by simpa using hj) (by simpa using he)]
theorem mM_inj {L : List Nat} {D : Nat} (h : nodupB L = true) {i j : Nat} (hi : i < L.length) (hj : j < L.length) (he : mM L D i = mM L D j) : i = j := by
  unfold mM at he
  refine nodupB_inj h i j hi hj ?_
  rw [List.getD_eq_getElem?_getD, List.getElem?_eq_getElem hi] at he ⊢
  rw [List.getD_eq_getElem?_getD, List.getElem?_eq_getElem hj] at he ⊢
  exact he
theorem mM_lo {M V : List Nat} {D i : Nat} (h : i < M.length) : mM (M ++ V) D i = M.getD i 0 := by
  unfold mM
  rw [List.getD_eq_getElem?_getD, List.getD_eq_getElem?_getD, List.getElem?_append_left h, List.getElem?_eq_getElem h]; rfl
theorem mM_hi {M V : List Nat} {D i : Nat} (h : M.length ≤ i) (h2 : i < M.length + V.length) : mM (M ++ V) D i = V.getD (i - M.length) 0 := by
  unfold mM
  rw [List.getD_eq_getElem?_getD, List.getD_eq_getElem?_getD, List.getElem?_append_right h, List.getElem?_eq_getElem (by omega)]; rfl
theorem mM_out {L : List Nat} {D i : Nat} (h : L.length ≤ i) : mM L D i = D := by
  unfold mM
  rw [List.getD_eq_getElem?_getD, List.getElem?_eq_none h]; rfl
theorem nodupB_app : ∀ {M V : List Nat}, nodupB (M ++ V) = true → ∀ x, x ∈ M → x ∈ V → False
  | [], V, _, x, h, _ => by cases h
  | a :: M, V, h, x, hx, hv => by
    simp only [List.cons_append, nodupB, Bool.and_eq_true, Bool.not_eq_true'] at h
    rcases List.mem_cons.1 hx with rfl | hx
    · rw [memI_of (List.mem_append_right _ hv)] at h; exact Bool.noConfusion h.1
    · exact nodupB_app h.2 x hx hv
theorem nodupB_right : ∀ {M V : List Nat}, nodupB (M ++ V) = true → nodupB V = true
  | [], _, h => h
  | a :: M, V, h => by
    simp only [List.cons_append, nodupB, Bool.and_eq_true] at h
    exact nodupB_right h.2
def idxI : List Nat → Nat → Nat
  | [], _ => 0
  | a :: l, x => bif Nat.beq a x then 0 else idxI l x + 1
theorem idxI_get : ∀ {l : List Nat}, nodupB l = true → ∀ i, i < l.length → idxI l (l.getD i 0) = i
  | [], _, i, hi => by simp at hi
  | a :: l, h, 0, _ => by simp [idxI]
  | a :: l, h, i + 1, hi => by
    have h' := h
    simp only [nodupB, Bool.and_eq_true, Bool.not_eq_true'] at h'
    have e : (a :: l).getD (i + 1) 0 = l.getD i 0 := by simp
    have hlt : i < l.length := by simpa using hi
    rw [e]
    unfold idxI
    have hne : Nat.beq a (l.getD i 0) = false := by
      cases hb : Nat.beq a (l.getD i 0) with
      | false => rfl
      | true =>
        have := Nat.eq_of_beq_eq_true hb
        rw [memI_of (by rw [this]; exact getD_in hlt)] at h'
        exact absurd h'.1 (by simp)
    rw [hne, idxI_get h'.2 i hlt]; rfl
theorem memI_to : ∀ {l : List Nat} {a : Nat}, memI l a = true → a ∈ l
  | [], a, h => by cases h
  | b :: l, a, h => by
    simp only [memI, Bool.or_eq_true] at h
    rcases h with h | h
    · rw [Nat.eq_of_beq_eq_true h]; exact List.mem_cons_self ..
    · exact List.mem_cons_of_mem _ (memI_to h)
/-- the memory that is handed over, under the callee's numbers -/
def coverC (m : Nat → Nat) (k0 : Nat) (heap : List (Nat × Option Blk)) : List (Nat × Option Blk) → Prop
  | [] => True
  | (id, none) :: r => coverC m k0 heap r
  | (id, some B) :: r => (Nat.blt id k0 = true ∧ getH heap (m id) = some (fB m B)) ∧ coverC m k0 heap r
theorem coverC_spec {m : Nat → Nat} {k0 : Nat} {heap : List (Nat × Option Blk)} : ∀ {e : List (Nat × Option Blk)}, coverC m k0 heap e → ∀ id B, getH e id = some B → id < k0 ∧ getH heap (m id) = some (fB m B)
  | [], _, t, v, h => by simp [getH] at h
  | (s, none) :: r, hc, t, v, h => by
    rw [getH_new] at h
    split at h
    · cases h
    · exact coverC_spec (e := r) hc t v h
  | (s, some u) :: r, hc, t, v, h => by
    rw [getH_new] at h
    split at h
    · rename_i e; subst e; injection h with h; subst h; exact ⟨Nat.le_of_ble_eq_true hc.1.1, hc.1.2⟩
    · exact coverC_spec (e := r) hc.2 t v h

theorem fB_box {m : Nat → Nat} {t : TypeId} {cs : List V} : fB m (.box t cs) = .box t (fv.fvL m cs) := rfl
/-- what may turn in the callee, and its numbers -/
def cBase (w : World) (ρ : Nat → Option Value) (h0 : List (Nat × Option Blk)) (m : Nat → Nat) (b : Nat) : Prop := w.heap.size ≤ b ∨ ∃ id B u, getH h0 id = some B ∧ B.owns = true ∧ ρ (m id) = some u ∧ blockOf u = some b
def cF (F : Nat → Prop) (w : World) (ρ : Nat → Option Value) (heap h0 : List (Nat × Option Blk)) (m : Nat → Nat) (b : Nat) : Prop := Stab F ρ heap b ∨ cBase w ρ h0 m b
def cρ (ρ : Nat → Option Value) (k0 : Nat) (m : Nat → Nat) (i : Nat) : Option Value := if i < k0 then ρ (m i) else none
theorem cρ_some {ρ : Nat → Option Value} {k0 : Nat} {m : Nat → Nat} {i : Nat} {u : Value} (h : cρ ρ k0 m i = some u) : i < k0 ∧ ρ (m i) = some u := by
  unfold cρ at h
  split at h
  · exact ⟨by assumption, h⟩
  · cases h
theorem cρ_of {ρ : Nat → Option Value} {k0 : Nat} {m : Nat → Nat} {i : Nat} (h : i < k0) : cρ ρ k0 m i = ρ (m i) := if_pos h
section
variable {F base : Nat → Prop} {ρ : Nat → Option Value} {heap h0 : List (Nat × Option Blk)} {N D : Nat} {w0 w : World} {M V : List Nat}
theorem callee_stab (hh : ∀ id B, getH h0 id = some B → id < M.length ∧ getH heap (mM (M ++ V) D id) = some (fB (mM (M ++ V) D) B)) {b : Nat} (h : Stab F ρ heap b) : Stab (cF F w ρ heap h0 (mM (M ++ V) D)) (cρ ρ M.length (mM (M ++ V) D)) h0 b :=
  ⟨.inl h, fun id B u hB ho hu => h.2 _ (fB (mM (M ++ V) D) B) u (hh id B hB).2 (by rw [fB_owns]; exact ho) (cρ_some hu).2⟩
theorem callee_ρ (hV : ∀ v, v ∈ V → ρ v = none) (hD : ρ D = none) {id : Nat} {u : Value} (hu : ρ (mM (M ++ V) D id) = some u) : cρ ρ M.length (mM (M ++ V) D) id = some u := by
  by_cases hi : id < M.length
  · rw [cρ_of hi]; exact hu
  · exfalso
    by_cases h2 : id < M.length + V.length
    · rw [mM_hi (by omega) h2, hV _ (getD_in (by omega))] at hu; cases hu
    · rw [mM_out (by rw [List.length_append]; omega), hD] at hu; cases hu
/-- what the callee sees -/
theorem callee_heap (hH : HRel F base ρ heap N w0 w) (hM : nodupB (M ++ V) = true) (hV : ∀ v, v ∈ V → ρ v = none) (hD : ρ D = none) (hh : ∀ id B, getH h0 id = some B → id < M.length ∧ getH heap (mM (M ++ V) D id) = some (fB (mM (M ++ V) D) B)) :
    HRel (cF F w ρ heap h0 (mM (M ++ V) D)) (cBase w ρ h0 (mM (M ++ V) D)) (cρ ρ M.length (mM (M ++ V) D)) h0 M.length w w := by
  have hS : ∀ b, Stab F ρ heap b → b < w.heap.size → Stab (cF F w ρ heap h0 (mM (M ++ V) D)) (cρ ρ M.length (mM (M ++ V) D)) h0 b := fun b h _ => callee_stab hh h
  refine ⟨⟨Frm.refl _ _, fun b hb => .inl hb, fun id u hu => ⟨(cρ_some hu).1, (hH.sup _ u (cρ_some hu).2).2⟩, fun id id' B B' u u' b hB hB' ho ho' hu hu' hb hb' => ?_, fun id B hB => ?_⟩, fun b hb => .inr hb⟩
  · have := hH.inj _ _ _ _ _ _ b (hh id B hB).2 (hh id' B' hB').2 (by rw [fB_owns]; exact ho) (by rw [fB_owns]; exact ho') (cρ_some hu).2 (cρ_some hu').2 hb hb'
    exact mM_inj hM (by rw [List.length_append]; have := (hh id B hB).1; omega) (by rw [List.length_append]; have := (hh id' B' hB').1; omega) this
  · obtain ⟨hlt, hb⟩ := hh id B hB
    have hbk := hH.blk _ _ hb
    have e := cρ_of (ρ := ρ) (m := mM (M ++ V) D) hlt
    cases B with
    | box t cs =>
      rw [fB_box] at hbk
      obtain ⟨b, us, q1, q2, q3, q4, q5⟩ := hbk
      rw [fvL_len] at q4 q5
      refine ⟨b, us, by rw [e]; exact q1, .inr ⟨id, _, _, hB, rfl, q1, rfl⟩, q3, q4, fun j hj => ⟨?_, (q5 j hj).2⟩⟩
      have := (q5 j hj).1
      rw [fvL_at hj] at this
      exact fv_down hS (fun i u hu => callee_ρ hV hD hu) this
    | row ty s l =>
      obtain ⟨h0', v, xs, q1, ⟨q2, q2'⟩, q3, q4⟩ := hbk
      exact ⟨h0', v, xs, by rw [e]; exact q1, ⟨q2, fun b hb => .inr ⟨id, _, _, hB, rfl, q1, hb⟩⟩, q3, fun i j hi hj => by
        obtain ⟨u, hu, hp, ho⟩ := q4 i j hi hj
        exact ⟨u, hu, hp.mono (Same.refl _ _) hS, ho⟩⟩
    | fro l =>
      obtain ⟨v, q1, q2, q3⟩ := hbk
      exact ⟨v, by rw [e]; exact q1, q2.mono (Same.refl _ _) hS, q3⟩
    | map q es =>
      obtain ⟨b, mes, clock, q1, q2, q3⟩ := hbk
      exact ⟨b, mes, clock, by rw [e]; exact q1, .inr ⟨id, _, _, hB, rfl, q1, rfl⟩, q3⟩
    | obj o =>
      obtain ⟨b, q1, q2, q3⟩ := hbk
      exact ⟨b, by rw [e]; exact q1, .inr ⟨id, _, _, hB, rfl, q1, rfl⟩, q3⟩
/-- the caller's numbers, behind the call -/
def aρ (ρ ρ' : Nat → Option Value) (k0 : Nat) (V : List Nat) (id : Nat) : Option Value := if memI V id = true then ρ' (k0 + idxI V id) else ρ id
theorem aρ_old {ρ ρ' : Nat → Option Value} {k0 : Nat} {V : List Nat} {id : Nat} (h : id ∉ V) : aρ ρ ρ' k0 V id = ρ id := if_neg (fun hm => h (memI_to hm))
/-- what the caller has behind the call -/
theorem caller_heap {h1 : List (Nat × Option Blk)} {k1 N' : Nat} {ρ' : Nat → Option Value} {w' : World} (hH : HRel F base ρ heap N w0 w) (hM : nodupB (M ++ V) = true) (hV : ∀ v, v ∈ V → ρ v = none) (hVN : ∀ v, v ∈ V → v < N') (hNN : N ≤ N') (hD : ρ D = none)
    (hh : ∀ id B, getH h0 id = some B → id < M.length ∧ getH heap (mM (M ++ V) D id) = some (fB (mM (M ++ V) D) B)) (hk : k1 = M.length + V.length) (hk1 : ∀ p ∈ h1, p.1 < k1)
    (hC : HRel (cF F w ρ heap h0 (mM (M ++ V) D)) (cBase w ρ h0 (mM (M ++ V) D)) ρ' h1 k1 w w') (hρ' : ∀ id, id < M.length → ρ' id = cρ ρ M.length (mM (M ++ V) D) id) :
    HRel F base (aρ ρ ρ' M.length V) (fH (mM (M ++ V) D) h1 ++ (deadM M ++ heap)) N' w0 w' ∧
    (∀ b, Stab F ρ heap b → b < w.heap.size → Stab F (aρ ρ ρ' M.length V) (fH (mM (M ++ V) D) h1 ++ (deadM M ++ heap)) b) ∧
    (∀ b, Stab (cF F w ρ heap h0 (mM (M ++ V) D)) ρ' h1 b → b < w'.heap.size → Stab F (aρ ρ ρ' M.length V) (fH (mM (M ++ V) D) h1 ++ (deadM M ++ heap)) b) ∧ Same (Stab F ρ heap) w w' ∧
    (∀ id u, ρ' id = some u → aρ ρ ρ' M.length V (mM (M ++ V) D id) = some u) ∧ (∀ id u, ρ id = some u → aρ ρ ρ' M.length V id = some u) := by
  have hlen : (M ++ V).length = k1 := by rw [List.length_append, hk]
  have hinj : ∀ i j, i < k1 → j < k1 → mM (M ++ V) D i = mM (M ++ V) D j → i = j := fun i j hi hj h => mM_inj hM (by omega) (by omega) h
  have hsome : ∀ id u, ρ id = some u → id ∉ V := fun id u hu hv => by rw [hV id hv] at hu; cases hu
  have hMm : ∀ i, i < M.length → mM (M ++ V) D i ∈ M := fun i hi => by rw [mM_lo hi]; exact getD_in hi
  -- a number of the callee's, as the caller's
  have hnew : ∀ i, i < k1 → aρ ρ ρ' M.length V (mM (M ++ V) D i) = ρ' i := fun i hi => by
    by_cases hl : i < M.length
    · rw [aρ_old (fun hv => nodupB_app hM _ (hMm i hl) hv), hρ' i hl, cρ_of hl]
    · have hv : mM (M ++ V) D i ∈ V := by rw [mM_hi (by omega) (by omega)]; exact getD_in (by omega)
      unfold aρ
      rw [if_pos (memI_of hv), mM_hi (by omega) (by omega), idxI_get (nodupB_right hM) _ (by omega)]
      congr 1; omega
  -- what the new memory says of a number
  have hget : ∀ id B, getH (fH (mM (M ++ V) D) h1 ++ (deadM M ++ heap)) id = some B → (∃ i B', i < k1 ∧ id = mM (M ++ V) D i ∧ getH h1 i = some B' ∧ B = fB (mM (M ++ V) D) B') ∨ ((∀ i, i < k1 → mM (M ++ V) D i ≠ id) ∧ id ∉ M ∧ getH heap id = some B) := fun id B hB => by
    by_cases hx : ∃ i, i < k1 ∧ mM (M ++ V) D i = id
    · obtain ⟨i, hi, rfl⟩ := hx
      left
      have hn : getH (deadM M ++ heap) (mM (M ++ V) D i) = none := by
        rw [getH_dead]
        by_cases hl : i < M.length
        · rw [if_pos (hMm i hl)]
        · split
          · rfl
          · cases hg : getH heap (mM (M ++ V) D i) with
            | none => rfl
            | some X =>
              obtain ⟨u, hu⟩ := hH.some_of hg
              exact absurd (by rw [mM_hi (by omega) (by omega)]; exact getD_in (by omega)) (hsome _ u hu)
      rw [getH_fH hinj h1 _ i hi hk1 hn] at hB
      cases hg : getH h1 i with
      | none => rw [hg] at hB; cases hB
      | some B' => rw [hg] at hB; injection hB with hB; exact ⟨i, B', hi, rfl, hg, hB.symm⟩
    · right
      have hx' : ∀ i, i < k1 → mM (M ++ V) D i ≠ id := fun i hi he => hx ⟨i, hi, he⟩
      rw [getH_fH_none h1 _ id hx' hk1, getH_dead] at hB
      split at hB
      · cases hB
      · exact ⟨hx', by assumption, hB⟩
  have hbase : ∀ b, cBase w ρ h0 (mM (M ++ V) D) b → base b := fun b hb => by
    rcases hb with hb | ⟨id, B, u, hB, ho, hu, hbb⟩
    · exact hH.hbase b hb
    · exact (hH.owned (hh id B hB).2 (by rw [fB_owns]; exact ho) hu hbb).1
  -- an own block of the caller's that was not handed over
  have hother : ∀ id B u b, (∀ i, i < k1 → mM (M ++ V) D i ≠ id) → getH heap id = some B → B.owns = true → ρ id = some u → blockOf u = some b → b < w.heap.size ∧ ¬ cBase w ρ h0 (mM (M ++ V) D) b := fun id B u b hne hB ho hu hbb => by
    have hlt := (hH.owned hB ho hu hbb).2
    refine ⟨hlt, fun hc => ?_⟩
    rcases hc with hc | ⟨id', B', u', hB', ho', hu', hbb'⟩
    · omega
    · have := hH.inj _ _ _ _ _ _ b (hh id' B' hB').2 hB (by rw [fB_owns]; exact ho') ho hu' hu hbb' hbb
      exact hne id' (by have := (hh id' B' hB').1; omega) this
  have hnotV : ∀ id B, getH heap id = some B → aρ ρ ρ' M.length V id = ρ id := fun id B hB => by
    obtain ⟨u, hu⟩ := hH.some_of hB
    exact aρ_old (hsome id u hu)
  have hS1 : ∀ b, Stab F ρ heap b → b < w.heap.size → Stab F (aρ ρ ρ' M.length V) (fH (mM (M ++ V) D) h1 ++ (deadM M ++ heap)) b := fun b h hlt => by
    refine ⟨h.1, fun id B u hB ho hu hbb => ?_⟩
    rcases hget id B hB with ⟨i, B', hi, rfl, hg, rfl⟩ | ⟨hne, _, hg⟩
    · rw [hnew i hi] at hu
      rw [fB_owns] at ho
      rcases (hC.owned hg ho hu hbb).1 with hc | ⟨id', B2, u2, hB2, ho2, hu2, hb2⟩
      · omega
      · exact h.2 _ _ _ (hh id' B2 hB2).2 (by rw [fB_owns]; exact ho2) hu2 hb2
    · rw [hnotV id B hg] at hu
      exact h.2 id B u hg ho hu hbb
  have hS2 : ∀ b, Stab (cF F w ρ heap h0 (mM (M ++ V) D)) ρ' h1 b → b < w'.heap.size → Stab F (aρ ρ ρ' M.length V) (fH (mM (M ++ V) D) h1 ++ (deadM M ++ heap)) b := fun b h hlt => by
    refine ⟨?_, fun id B u hB ho hu hbb => ?_⟩
    · rcases h.1 with h1 | h1
      · exact h1.1
      · exact hH.hF b (hbase b h1)
    · rcases hget id B hB with ⟨i, B', hi, rfl, hg, rfl⟩ | ⟨hne, _, hg⟩
      · rw [hnew i hi] at hu
        rw [fB_owns] at ho
        exact h.2 i B' u hg ho hu hbb
      · rw [hnotV id B hg] at hu
        rcases h.1 with h1 | h1
        · exact h1.2 id B u hg ho hu hbb
        · exact (hother id B u b hne hg ho hu hbb).2 h1
  have hsame : Same (Stab F ρ heap) w w' := fun b h hlt => hC.below.block b hlt (fun hc => by
    rcases hc with hc | ⟨id, B, u, hB, ho, hu, hbb⟩
    · omega
    · exact h.2 _ _ _ (hh id B hB).2 (by rw [fB_owns]; exact ho) hu hbb)
  have hup : ∀ id u, ρ' id = some u → aρ ρ ρ' M.length V (mM (M ++ V) D id) = some u := fun id u hu => by rw [hnew id (hC.sup _ _ hu).1]; exact hu
  have hkeep : ∀ id u, ρ id = some u → aρ ρ ρ' M.length V id = some u := fun id u hu => by rw [aρ_old (hsome id u hu)]; exact hu
  refine ⟨⟨⟨?_, fun b hb => hH.hbase b (Nat.le_trans hC.below.size hb), ?_, ?_, ?_⟩, hH.hF⟩, hS1, hS2, hsame, hup, hkeep⟩
  · exact hH.below.trans ⟨hC.below.os, hC.below.tape, hC.below.output, hC.below.size, fun k hk hb => hC.below.block k hk (fun hc => hb (hbase k hc))⟩
  · intro id u hu
    unfold aρ at hu
    split at hu
    · rename_i hm
      exact ⟨hVN _ (memI_to hm), (hC.sup _ _ hu).2⟩
    · exact ⟨Nat.lt_of_lt_of_le (hH.sup _ _ hu).1 hNN, (hH.sup _ _ hu).2⟩
  · intro id id' B B' u u' b hB hB' ho ho' hu hu' hb hb'
    rcases hget id B hB with ⟨i, X, hi, rfl, hg, rfl⟩ | ⟨hne, hnm, hg⟩
    · rw [hnew i hi] at hu
      rw [fB_owns] at ho
      rcases hget id' B' hB' with ⟨i', X', hi', rfl, hg', rfl⟩ | ⟨hne', _, hg'⟩
      · rw [hnew i' hi'] at hu'
        rw [fB_owns] at ho'
        rw [hC.inj _ _ _ _ _ _ b hg hg' ho ho' hu hu' hb hb']
      · exfalso
        rw [hnotV id' B' hg'] at hu'
        exact (hother id' B' u' b hne' hg' ho' hu' hb').2 (hC.owned hg ho hu hb).1
    · rw [hnotV id B hg] at hu
      rcases hget id' B' hB' with ⟨i', X', hi', rfl, hg', rfl⟩ | ⟨hne', _, hg'⟩
      · exfalso
        rw [hnew i' hi'] at hu'
        rw [fB_owns] at ho'
        exact (hother id B u b hne hg ho hu hb).2 (hC.owned hg' ho' hu' hb').1
      · rw [hnotV id' B' hg'] at hu'
        exact hH.inj _ _ _ _ _ _ b hg hg' ho ho' hu hu' hb hb'
  · intro id B hB
    rcases hget id B hB with ⟨i, X, hi, rfl, hg, rfl⟩ | ⟨hne, hnm, hg⟩
    · have hbk := hC.blk i X hg
      have e := hnew i hi
      cases X with
      | box t cs =>
        obtain ⟨b, us, q1, q2, q3, q4, q5⟩ := hbk
        exact ⟨b, us, by rw [e]; exact q1, hbase b q2, q3, by rw [fvL_len]; exact q4, fun j hj => by
          rw [fvL_len] at hj
          rw [fvL_at hj]
          exact ⟨fv_up hS2 hup (q5 j hj).1, (q5 j hj).2⟩⟩
      | row ty s l =>
        obtain ⟨h0', v, xs, q1, ⟨q2, q2'⟩, q3, q4⟩ := hbk
        exact ⟨h0', v, xs, by rw [e]; exact q1, ⟨q2, fun b hb => hbase b (q2' b hb)⟩, q3, fun i j hi hj => by
          obtain ⟨u, hu, hp, ho⟩ := q4 i j hi hj
          exact ⟨u, hu, hp.mono (Same.refl _ _) hS2, ho⟩⟩
      | fro l =>
        obtain ⟨v, q1, q2, q3⟩ := hbk
        exact ⟨v, by rw [e]; exact q1, q2.mono (Same.refl _ _) hS2, q3⟩
      | map q es =>
        obtain ⟨b, mes, clock, q1, q2, q3⟩ := hbk
        exact ⟨b, mes, clock, by rw [e]; exact q1, hbase b q2, q3⟩
      | obj o =>
        obtain ⟨b, q1, q2, q3⟩ := hbk
        exact ⟨b, by rw [e]; exact q1, hbase b q2, q3⟩
    · refine (hH.blk id B hg).mono hsame hS1 hkeep (fun ho u b hu hb hlt => ?_)
      exact hC.below.block b hlt (hother id B u b hne hg ho hu hb).2
end
/-- a call to which memory is handed, and which hands memory back; M: what it gets, in the caller's numbers; V: the numbers of what is new -/
theorem call_coreV {o : Oper} {st : St} {f : FuncId} {vs vs' : List V} {r : V} {h0 h1 : List (Nat × Option Blk)} {k1 N' D : Nat} (M V : List Nat) (hf : FnM P f vs' h0 M.length r h1 k1) (hdn : dstOk st.nt o.dst = true)
    (hw : WkL vs (fv.fvL (mM (M ++ V) D) vs')) (hM : nodupB (M ++ V) = true) (hh : coverC (mM (M ++ V) D) M.length st.heap h0) (hk : k1 = M.length + V.length) (hk1 : h1.all (fun p => Nat.blt p.1 k1) = true) (hVN : ∀ v, v ∈ V → v < N') (hNN : st.next ≤ N')
    {F base : Nat → Prop} {w0 : World} {ρ : Nat → Option Value} {a : Act} {w : World} (hH : HRel F base ρ st.heap st.next w0 w) (hE : ERel ρ (Stab F ρ st.heap) w st.nt st.env a) (hV : ∀ v, v ∈ V → ρ v = none) (hD : ρ D = none)
    {vals : Array Value} (hrun : (execOp a.eval o).run P w = .ok (.enter f vals) w) (hsz : vals.size = vs.length) (e2 : ∀ j, j < vs.length → VRel ρ (Stab F ρ st.heap) w (cAt vs j) (vals.getD j undef)) :
    o.wp P a w (fun a' w' => ∃ ρ', HRel F base ρ' (fH (mM (M ++ V) D) h1 ++ (deadM M ++ st.heap)) N' w0 w' ∧ ERel ρ' (Stab F ρ' (fH (mM (M ++ V) D) h1 ++ (deadM M ++ st.heap))) w' st.nt (st.put o.dst (fv (mM (M ++ V) D) r)).env a' ∧ (∀ id u, ρ id = some u → ρ' id = some u) ∧ ∀ id, id ∉ V → ρ' id = ρ id) (fun _ _ _ => False) := by
  have hh := coverC_spec hh
  have hk1 : ∀ p ∈ h1, p.1 < k1 := fun p hp => Nat.le_of_ble_eq_true (List.all_eq_true.1 hk1 p hp)
  have hl := WkL.rel (ρ := ρ) (S := Stab F ρ st.heap) (w := w) hw
  rw [fvL_len] at hl
  unfold Oper.wp
  rw [hrun, Oper.upon_enter]
  refine (hf.2.2 _ _ w _ w vals (by rw [hsz, hl.1]) (callee_heap hH hM hV hD hh) (fun j hj => ?_)).mono ?_
  · have h := hl.2 j (by omega) (e2 j (by omega))
    rw [fvL_at hj] at h
    exact fv_down (fun b h _ => callee_stab hh h) (fun i u hu => callee_ρ hV hD hu) h
  · rintro e w' ⟨v, ρ', rfl, q1, q2, q3⟩
    obtain ⟨p1, p2, p3, p4, p5, p6⟩ := caller_heap hH hM hV hVN hNN hD hh hk hk1 q1 q3
    have hE2 := hE.mono p4 p2 p6
    refine ⟨_, p1, ?_, p6, fun id hid => aρ_old hid⟩
    have hv := fv_up p3 p5 q2
    cases hd : o.dst with
    | none => exact hE2
    | some d =>
      rw [hd] at hdn
      exact hE2.put (Nat.le_of_ble_eq_true hdn) hv
theorem call_core {o : Oper} {st : St} {f : FuncId} {xs : Array Operand} {ts : Array TypeId} {vs vs' : List V} {r : V} {h0 h1 : List (Nat × Option Blk)} {k1 N' D : Nat} (M V : List Nat) (hf : FnM P f vs' h0 M.length r h1 k1) (ho : o.op = .call { callee := .value (.func f), args := xs, argTypes := ts }) (hdn : dstOk st.nt o.dst = true)
    (hx : argsE st.env xs.toList = some vs) (hw : WkL vs (fv.fvL (mM (M ++ V) D) vs')) (hM : nodupB (M ++ V) = true) (hh : coverC (mM (M ++ V) D) M.length st.heap h0) (hk : k1 = M.length + V.length) (hk1 : h1.all (fun p => Nat.blt p.1 k1) = true) (hVN : ∀ v, v ∈ V → v < N') (hNN : st.next ≤ N')
    {F base : Nat → Prop} {w0 : World} {ρ : Nat → Option Value} {a : Act} {w : World} (hH : HRel F base ρ st.heap st.next w0 w) (hE : ERel ρ (Stab F ρ st.heap) w st.nt st.env a) (hV : ∀ v, v ∈ V → ρ v = none) (hD : ρ D = none) :
    o.wp P a w (fun a' w' => ∃ ρ', HRel F base ρ' (fH (mM (M ++ V) D) h1 ++ (deadM M ++ st.heap)) N' w0 w' ∧ ERel ρ' (Stab F ρ' (fH (mM (M ++ V) D) h1 ++ (deadM M ++ st.heap))) w' st.nt (st.put o.dst (fv (mM (M ++ V) D) r)).env a' ∧ (∀ id u, ρ id = some u → ρ' id = some u) ∧ ∀ id, id ∉ V → ρ' id = ρ id) (fun _ _ _ => False) := by
  obtain ⟨e1, e2⟩ := argsE_spec hE hx
  refine call_coreV M V hf hdn hw hM hh hk hk1 hVN hNN hH hE hV hD (run_call ho hf.1 a w) (by rw [e1]; simp) (fun j hj => ?_)
  have h := e2 j hj
  have e3 : (xs.toList.map a.eval).getD j undef = (xs.map a.eval).getD j undef := by
    rw [List.getD_eq_getElem?_getD, Array.getD_eq_getD_getElem?, ← Array.toList_map]
    simp
  rwa [e3] at h
def rangeN (N : Nat) : Nat → List Nat
  | 0 => []
  | n + 1 => N :: rangeN (N + 1) n
theorem rangeN_mem : ∀ {n N v : Nat}, v ∈ rangeN N n → N ≤ v ∧ v < N + n
  | 0, N, v, h => by cases h
  | n + 1, N, v, h => by
    rcases List.mem_cons.1 h with rfl | h
    · omega
    · have := rangeN_mem h; omega
theorem none_of_sup {ρ : Nat → Option Value} {n id : Nat} (hs : ∀ id u, ρ id = some u → id < n ∧ u.oneCell' = true) (hid : n ≤ id) : ρ id = none := by
  cases hr : ρ id with
  | none => rfl
  | some u => have := (hs id u hr).1; omega
theorem g_callM {o : Oper} {st : St} {f : FuncId} {xs : Array Operand} {ts : Array TypeId} {vs vs' : List V} {r : V} {h0 h1 : List (Nat × Option Blk)} {k1 : Nat} (M : List Nat) (n : Nat) (hf : FnM P f vs' h0 M.length r h1 k1) (ho : o.op = .call { callee := .value (.func f), args := xs, argTypes := ts }) (hdn : dstOk st.nt o.dst = true)
    (hx : argsE st.env xs.toList = some vs) (hw : WkL vs (fv.fvL (mM (M ++ rangeN st.next n) (st.next + n)) vs')) (hM : nodupB (M ++ rangeN st.next n) = true) (hh : coverC (mM (M ++ rangeN st.next n) (st.next + n)) M.length st.heap h0) (hk : k1 = M.length + (rangeN st.next n).length) (hk1 : h1.all (fun p => Nat.blt p.1 k1) = true) (hn0 : n0 ≤ st.next) :
    GStep P n0 o st { env := (st.put o.dst (fv (mM (M ++ rangeN st.next n) (st.next + n)) r)).env, heap := fH (mM (M ++ rangeN st.next n) (st.next + n)) h1 ++ (deadM M ++ st.heap), next := st.next + n, nt := st.nt } := fun F base w0 ρ a w hH hE => by
  refine upon_mono0 ?_ (call_core (N' := st.next + n) M (rangeN st.next n) hf ho hdn hx hw hM hh hk hk1 (fun v hv => (rangeN_mem hv).2) (by omega) hH hE (fun v hv => none_of_sup hH.sup (rangeN_mem hv).1) (none_of_sup hH.sup (by omega)))
  rintro a' w' ⟨ρ', q1, q2, q3, q4⟩
  exact ⟨ρ', q1, q2, q3, fun id hid => q4 id (fun hv => by have := (rangeN_mem hv).1; omega)⟩
/-! ### Closures -/
theorem clo_inv {ρ : Nat → Option Value} {S : Nat → Prop} {w : World} {f : FuncId} {cs : List V} {u : Value} (h : VRel ρ S w (.clo f cs) u) : ∃ us, u = .func (.func f) #[] us ∧ us.size = cs.length ∧ ∀ j, j < cs.length → VRel ρ S w (cAt cs j) (us.getD j undef) := by
  cases h with
  | pure h => cases h
  | clo hn h => exact ⟨_, rfl, hn, h⟩
theorem run_callv {o : Oper} {t : Tmp} {f : FuncId} {xs : Array Operand} {ts : Array TypeId} {us : Array Value} (ho : o.op = .call { callee := .value (.tmp t), args := xs, argTypes := ts }) (hf : fnOk P f = true) {a : Act} (ht : a.tmps.getD t undef = .func (.func f) #[] us) (w : World) :
    (execOp a.eval o).run P w = .ok (.enter f (xs.map a.eval ++ us)) w := by
  unfold fnOk at hf
  cases hfn : P.funcs[f]? with
  | none => rw [hfn] at hf; cases hf
  | some fn =>
    rw [hfn] at hf
    simp only [Bool.and_eq_true, Bool.not_eq_true'] at hf
    obtain ⟨h1, h2⟩ := hf
    obtain ⟨c, hc⟩ := Option.isSome_iff_exists.1 h1
    unfold execOp; rw [ho]
    have hname : fn.name ≠ "runtime.NumGoroutine" := fun e => by rw [e] at h2; simp at h2
    have he : a.eval (.tmp t) = .func (.func f) #[] us := ht
    simp [resolve, he, Deferred.ofValue, invoke, callFunc, Sem.run_bind, Sem.run_pure, program, Sem.run, hfn, hc, hname]
theorem g_callV {o : Oper} {st : St} {t : Tmp} {f : FuncId} {xs : Array Operand} {ts : Array TypeId} {vs vs' cs : List V} {r : V} {h0 h1 : List (Nat × Option Blk)} {k1 : Nat} (M : List Nat) (n : Nat) (hf : FnM P f vs' h0 M.length r h1 k1) (ho : o.op = .call { callee := .value (.tmp t), args := xs, argTypes := ts }) (ht : getE st.env t = some (.clo f cs)) (hdn : dstOk st.nt o.dst = true)
    (hx : argsE st.env xs.toList = some vs) (hw : WkL (vs ++ cs) (fv.fvL (mM (M ++ rangeN st.next n) (st.next + n)) vs')) (hM : nodupB (M ++ rangeN st.next n) = true) (hh : coverC (mM (M ++ rangeN st.next n) (st.next + n)) M.length st.heap h0) (hk : k1 = M.length + (rangeN st.next n).length) (hk1 : h1.all (fun p => Nat.blt p.1 k1) = true) (hn0 : n0 ≤ st.next) :
    GStep P n0 o st { env := (st.put o.dst (fv (mM (M ++ rangeN st.next n) (st.next + n)) r)).env, heap := fH (mM (M ++ rangeN st.next n) (st.next + n)) h1 ++ (deadM M ++ st.heap), next := st.next + n, nt := st.nt } := fun F base w0 ρ a w hH hE => by
  obtain ⟨e1, e2⟩ := argsE_spec hE hx
  obtain ⟨us, q1, q2, q3⟩ := clo_inv (hE.slot t _ ht)
  refine upon_mono0 ?_ (call_coreV (N' := st.next + n) (vs := vs ++ cs) M (rangeN st.next n) hf hdn hw hM hh hk hk1 (fun v hv => (rangeN_mem hv).2) (by omega) hH hE (fun v hv => none_of_sup hH.sup (rangeN_mem hv).1) (none_of_sup hH.sup (by omega)) (run_callv ho hf.1 q1 w) (by simp [e1, q2]) (fun j hj => ?_))
  · rintro a' w' ⟨ρ', q1, q2, q3, q4⟩
    exact ⟨ρ', q1, q2, q3, fun id hid => q4 id (fun hv => by have := (rangeN_mem hv).1; omega)⟩
  · have hsz : (xs.map a.eval).size = vs.length := by rw [e1]; simp
    by_cases hlt : j < vs.length
    · have h := e2 j hlt
      have e3 : (xs.toList.map a.eval).getD j undef = (xs.map a.eval ++ us).getD j undef := by
        rw [List.getD_eq_getElem?_getD, Array.getD_eq_getD_getElem?, Array.getElem?_append_left (by omega), ← Array.toList_map]
        simp
      have e4 : cAt (vs ++ cs) j = cAt vs j := by unfold cAt; rw [List.getD_eq_getElem?_getD, List.getD_eq_getElem?_getD, List.getElem?_append_left hlt]
      rw [e3] at h
      rwa [e4]
    · rw [List.length_append] at hj
      have h := q3 (j - vs.length) (by omega)
      have e3 : us.getD (j - vs.length) undef = (xs.map a.eval ++ us).getD j undef := by
        rw [Array.getD_eq_getD_getElem?, Array.getD_eq_getD_getElem?, Array.getElem?_append_right (by omega), hsz]
      have e4 : cAt (vs ++ cs) j = cAt cs (j - vs.length) := by unfold cAt; rw [List.getD_eq_getElem?_getD, List.getD_eq_getElem?_getD, List.getElem?_append_right (by omega)]
      rw [e3] at h
      rwa [e4]
theorem q_makeFunc {G : List Nat} {o : Oper} {st : St} {f : FuncId} {xs : Array Operand} {vs : List V} (ho : o.op = .makeFunc (.func f) #[] xs) (hx : argsE st.env xs.toList = some vs) : QStep P G o st (.clo f vs) :=
  q_of_run fun F base w0 ρ a w hH hE => by
    obtain ⟨e1, e2⟩ := argsE_spec hE hx
    refine ⟨.func (.func f) #[] (xs.map a.eval), .clo (by rw [e1]; simp) (fun j hj => ?_), fun w' => ?_⟩
    · have h := e2 j hj
      have e3 : (xs.toList.map a.eval).getD j undef = (xs.map a.eval).getD j undef := by
        rw [List.getD_eq_getElem?_getD, Array.getD_eq_getD_getElem?, ← Array.toList_map]
        simp
      rwa [e3] at h
    · unfold execOp; rw [ho]; simp [Instr.makeFunc, Sem.run_bind, Sem.run_pure]
/-- the same with one new number, which is given -/
theorem a_callM {k : Nat} {o : Oper} {st : St} {f : FuncId} {xs : Array Operand} {ts : Array TypeId} {vs vs' : List V} {r : V} {h0 h1 : List (Nat × Option Blk)} {k1 : Nat} (M : List Nat) (hf : FnM P f vs' h0 M.length r h1 k1) (ho : o.op = .call { callee := .value (.func f), args := xs, argTypes := ts }) (hdn : dstOk st.nt o.dst = true)
    (hx : argsE st.env xs.toList = some vs) (hw : WkL vs (fv.fvL (mM (M ++ [k]) st.next) vs')) (hM : nodupB (M ++ [k]) = true) (hh : coverC (mM (M ++ [k]) st.next) M.length st.heap h0) (hk : k1 = M.length + 1) (hk1 : h1.all (fun p => Nat.blt p.1 k1) = true) :
    GAt P k o st { env := (st.put o.dst (fv (mM (M ++ [k]) st.next) r)).env, heap := fH (mM (M ++ [k]) st.next) h1 ++ (deadM M ++ st.heap), next := st.next, nt := st.nt } := fun F base w0 ρ a w hH hE hnn hkn => by
  refine upon_mono0 ?_ (call_core (N' := st.next) M [k] hf ho hdn hx hw hM hh hk hk1 (fun v hv => by rw [List.mem_singleton.1 hv]; exact hkn) (Nat.le_refl _) hH hE (fun v hv => by rw [List.mem_singleton.1 hv]; exact hnn) (none_of_sup hH.sup (Nat.le_refl _)))
  rintro a' w' ⟨ρ', q1, q2, q3, q4⟩
  exact ⟨ρ', q1, q2, q3, fun id hid => q4 id (fun hv => hid (List.mem_singleton.1 hv))⟩
end
end Go.Proofs.Ytnbbnedpjfanoaa
