/-
  A VALUE CALCULUS OVER THE MODEL, part 17: other numbers for what is the call's own, and data in place of what it gives up. Plain lemmas, over any program.
-/
import Derived.Test.YtnbbnedpjfanoaaAbs16
set_option linter.unusedVariables false
set_option linter.unusedSimpArgs false
set_option linter.unusedVariables false
namespace Go.Proofs.Ytnbbnedpjfanoaa
open Go.RowKit

/-! ### A value under other numbers -/
def sv (inv : Nat → Option Nat) (heap : List (Nat × Option Blk)) : V → Option V
  | .lit u => some (.lit u)
  | .ro l => some (.ro l)
  | .rp cs => some (.rp cs)
  | .own id => match inv id with
    | some id' => some (.own id')
    | none => match getH heap id with
      | some (.row _ _ l) => some (.ro l)
      | some (.fro l) => some (.ro l)
      | _ => none
  | .ptr id i s j => match inv id with
    | some id' => some (.ptr id' i s j)
    | none => none
  | .agg cs => match svL cs with
    | some cs' => some (.agg cs')
    | none => none
  | .tup cs => match svL cs with
    | some cs' => some (.tup cs')
    | none => none
  | .clo f cs => match svL cs with
    | some cs' => some (.clo f cs')
    | none => none
  | .any => some .any
  | .und => some .und
where svL : List V → Option (List V)
  | [] => some []
  | c :: cs => match sv inv heap c, svL cs with
    | some c', some cs' => some (c' :: cs')
    | _, _ => none
theorem svL_spec {inv : Nat → Option Nat} {heap : List (Nat × Option Blk)} : ∀ {cs cs' : List V}, sv.svL inv heap cs = some cs' → cs'.length = cs.length ∧ ∀ j, j < cs.length → sv inv heap (cAt cs j) = some (cAt cs' j)
  | [], cs', h => by
    simp only [sv.svL, Option.some.injEq] at h
    subst h
    exact ⟨rfl, fun j hj => by simp at hj⟩
  | c :: cs, cs', h => by
    simp only [sv.svL] at h
    split at h
    · rename_i c' cs'' h1 h2
      injection h with h; subst h
      obtain ⟨e1, e2⟩ := svL_spec h2
      refine ⟨by simp [e1], fun j hj => ?_⟩
      cases j with
      | zero => simpa [cAt] using h1
      | succ j =>
        have := e2 j (by simpa using hj)
        simpa [cAt] using this
    · cases h

/-- a block under other numbers -/
def svB (inv : Nat → Option Nat) (heap : List (Nat × Option Blk)) : Blk → Option Blk
  | .box t cs => match sv.svL inv heap cs with
    | some cs' => some (.box t cs')
    | none => none
  | B => some B

/-- what relates the numbers: those kept -/
structure Ren (n0 k1 : Nat) (inv : Nat → Option Nat) (mp : Nat → Nat) : Prop where
  le : n0 ≤ k1
  back : ∀ {o n}, inv o = some n → mp n = o ∧ n < k1
  low : ∀ {i}, i < n0 → inv i = some i
def renρ (ρ : Nat → Option Value) (inv : Nat → Option Nat) (mp : Nat → Nat) : Nat → Option Value := fun id => if inv (mp id) = some id then ρ (mp id) else none
theorem renρ_some {ρ : Nat → Option Value} {inv : Nat → Option Nat} {mp : Nat → Nat} {id : Nat} {u : Value} (h : renρ ρ inv mp id = some u) : inv (mp id) = some id ∧ ρ (mp id) = some u := by
  unfold renρ at h
  split at h
  · exact ⟨by assumption, h⟩
  · cases h
theorem renρ_of {n0 k1 : Nat} {ρ : Nat → Option Value} {inv : Nat → Option Nat} {mp : Nat → Nat} (hr : Ren n0 k1 inv mp) {o n : Nat} (h : inv o = some n) : renρ ρ inv mp n = ρ o := by
  have e := (hr.back h).1
  unfold renρ
  rw [e, if_pos h]
section
variable {P : Program} {n0 : Nat}
theorem stab_ren {F : Nat → Prop} {ρ : Nat → Option Value} {heap heap' : List (Nat × Option Blk)} {inv : Nat → Option Nat} {mp : Nat → Nat}
    (hh : ∀ id B', getH heap' id = some B' → inv (mp id) = some id ∧ ∃ B, getH heap (mp id) = some B ∧ svB inv heap B = some B') {b : Nat} (h : Stab F ρ heap b) : Stab F (renρ ρ inv mp) heap' b := by
  refine ⟨h.1, fun id B' u hB ho hu => ?_⟩
  obtain ⟨_, B, h2, h3⟩ := hh id B' hB
  refine h.2 (mp id) B u h2 ?_ (renρ_some hu).2
  cases B with
  | box t cs => rfl
  | row => rfl
  | fro l => simp only [svB, Option.some.injEq] at h3; subst h3; cases ho
  | map q es => rfl
  | obj o => rfl
theorem sv_spec {F base : Nat → Prop} {ρ : Nat → Option Value} {heap heap' : List (Nat × Option Blk)} {next k1 : Nat} {w0 w : World} {inv : Nat → Option Nat} {mp : Nat → Nat} (hr : Ren n0 k1 inv mp) (hH : HRel F base ρ heap next w0 w)
    (hh : ∀ id B', getH heap' id = some B' → inv (mp id) = some id ∧ ∃ B, getH heap (mp id) = some B ∧ svB inv heap B = some B') {v : V} {u : Value} (h : VRel ρ (Stab F ρ heap) w v u) : ∀ {v'}, sv inv heap v = some v' → VRel (renρ ρ inv mp) (Stab F (renρ ρ inv mp) heap') w v' u := by
  have hS : ∀ b, Stab F ρ heap b → b < w.heap.size → Stab F (renρ ρ inv mp) heap' b := fun b h _ => stab_ren hh h
  induction h with
  | @pure v u h =>
    intro v' hv
    have hp := h.mono (Same.refl _ _) hS
    cases h with
    | lit => simp only [sv, Option.some.injEq] at hv; subst hv; exact .pure hp
    | ro => simp only [sv, Option.some.injEq] at hv; subst hv; exact .pure hp
  | @own id u h =>
    intro v' hv
    simp only [sv] at hv
    split at hv
    · rename_i id' hi
      injection hv with hv; subst hv
      exact .own (by rw [renρ_of hr hi]; exact h)
    · rename_i hi
      split at hv
      · rename_i e s l hhd
        injection hv with hv; subst hv
        obtain ⟨h0, v, xs, h1, ⟨h2, _⟩, h3, h4⟩ := hH.blk _ _ hhd
        rw [h] at h1; injection h1 with h1; subst h1
        refine .pure (row_ro h0 h2 h3 h4 hS (fun b hb => ⟨hH.hF b (hH.owned hhd rfl h hb).1, fun id' B' u' hB' ho' hu' hbb => ?_⟩))
        obtain ⟨g1, B, g2, g3⟩ := hh id' B' hB'
        obtain ⟨g4, g5⟩ := renρ_some hu'
        have hoB : B.owns = true := by
          cases B with
          | box t cs => rfl
          | row => rfl
          | fro l => simp only [svB, Option.some.injEq] at g3; subst g3; cases ho'
          | map q es => rfl
          | obj o => rfl
        have := hH.inj _ _ _ _ _ _ b g2 hhd hoB rfl g5 h hbb hb
        rw [this, hi] at g1; cases g1
      · rename_i l hhd
        injection hv with hv; subst hv
        obtain ⟨v, h1, h2, _⟩ := hH.blk _ _ hhd
        rw [h] at h1; injection h1 with h1; subst h1
        exact .pure (h2.mono (Same.refl _ _) hS)
      · cases hv
  | @ptr id i s j b u h hb =>
    intro v' hv
    simp only [sv] at hv
    split at hv
    · rename_i id' hi
      injection hv with hv; subst hv
      exact .ptr (by rw [renρ_of hr hi]; exact h) hb
    · cases hv
  | rp us hSb hc hrl =>
    intro v' hv
    simp only [sv, Option.some.injEq] at hv; subst hv
    exact .rp us (fun h => hS _ (hSb h) (cell_lt (hc 0 h))) hc (fun j hj => (hrl j hj).mono (Same.refl _ _) hS)
  | agg hn h ih =>
    intro v' hv
    simp only [sv] at hv
    split at hv
    · rename_i cs' hcs
      injection hv with hv; subst hv
      obtain ⟨e1, e2⟩ := svL_spec hcs
      exact .agg (by rw [e1]; exact hn) (fun j hj => ih j (by omega) (e2 j (by omega)))
    · cases hv
  | tup hn h ih =>
    intro v' hv
    simp only [sv] at hv
    split at hv
    · rename_i cs' hcs
      injection hv with hv; subst hv
      obtain ⟨e1, e2⟩ := svL_spec hcs
      exact .tup (by rw [e1]; exact hn) (fun j hj => ih j (by omega) (e2 j (by omega)))
    · cases hv
  | clo hn h ih =>
    intro v' hv
    simp only [sv] at hv
    split at hv
    · rename_i cs' hcs
      injection hv with hv; subst hv
      obtain ⟨e1, e2⟩ := svL_spec hcs
      exact .clo (by rw [e1]; exact hn) (fun j hj => ih j (by omega) (e2 j (by omega)))
    · cases hv
  | any u => intro v' hv; simp only [sv, Option.some.injEq] at hv; subst hv; exact .any u
  | und => intro v' hv; simp only [sv, Option.some.injEq] at hv; subst hv; exact .und
theorem ren_heap {F base : Nat → Prop} {ρ : Nat → Option Value} {heap heap' : List (Nat × Option Blk)} {next k1 : Nat} {w0 w : World} {inv : Nat → Option Nat} {mp : Nat → Nat} (hr : Ren n0 k1 inv mp) (hH : HRel F base ρ heap next w0 w)
    (hh : ∀ id B', getH heap' id = some B' → inv (mp id) = some id ∧ ∃ B, getH heap (mp id) = some B ∧ svB inv heap B = some B') : HRel F base (renρ ρ inv mp) heap' k1 w0 w := by
  have hS : ∀ b, Stab F ρ heap b → b < w.heap.size → Stab F (renρ ρ inv mp) heap' b := fun b h _ => stab_ren hh h
  have hown : ∀ {B B' : Blk}, svB inv heap B = some B' → B'.owns = true → B.owns = true := fun {B B'} h ho => by
    cases B with
    | box t cs => rfl
    | row => rfl
    | fro l => simp only [svB, Option.some.injEq] at h; subst h; cases ho
    | map q es => rfl
    | obj o => rfl
  refine ⟨⟨hH.below, hH.hbase, fun id u hu => ⟨(hr.back (renρ_some hu).1).2, (hH.sup _ u (renρ_some hu).2).2⟩, fun id id' B B' u u' b hB hB' ho ho' hu hu' hb hb' => ?_, fun id B' hB' => ?_⟩, hH.hF⟩
  · obtain ⟨g1, C, g2, g3⟩ := hh id B hB
    obtain ⟨k1, C', k2, k3⟩ := hh id' B' hB'
    have := hH.inj _ _ _ _ _ _ b g2 k2 (hown g3 ho) (hown k3 ho') (renρ_some hu).2 (renρ_some hu').2 hb hb'
    rw [this, k1] at g1; injection g1 with g1; exact g1.symm
  · obtain ⟨g1, B, g2, g3⟩ := hh id B' hB'
    have hbk := hH.blk _ _ g2
    have e : renρ ρ inv mp id = ρ (mp id) := by unfold renρ; rw [if_pos g1]
    cases B with
    | box t cs =>
      obtain ⟨b, us, q1, q2, q3, q4, q5⟩ := hbk
      simp only [svB] at g3
      split at g3
      · rename_i cs' hcs
        injection g3 with g3; subst g3
        obtain ⟨e1, e2⟩ := svL_spec hcs
        exact ⟨b, us, by rw [e]; exact q1, q2, q3, by omega, fun j hj => ⟨sv_spec hr hH hh (q5 j (by omega)).1 (e2 j (by omega)), (q5 j (by omega)).2⟩⟩
      · cases g3
    | row ty s l =>
      simp only [svB, Option.some.injEq] at g3; subst g3
      obtain ⟨h0, v, xs, q1, q2, q3, q4⟩ := hbk
      exact ⟨h0, v, xs, by rw [e]; exact q1, q2, q3, fun i j hi hj => by
        obtain ⟨u, hu, hp, ho⟩ := q4 i j hi hj
        exact ⟨u, hu, hp.mono (Same.refl _ _) hS, ho⟩⟩
    | fro l =>
      simp only [svB, Option.some.injEq] at g3; subst g3
      obtain ⟨v, q1, q2, q3⟩ := hbk
      exact ⟨v, by rw [e]; exact q1, q2.mono (Same.refl _ _) hS, q3⟩
    | map q es =>
      simp only [svB, Option.some.injEq] at g3; subst g3
      obtain ⟨b, mes, clock, q1, q2⟩ := hbk
      exact ⟨b, mes, clock, by rw [e]; exact q1, q2⟩
    | obj o =>
      simp only [svB, Option.some.injEq] at g3; subst g3
      obtain ⟨b, q1, q2⟩ := hbk
      exact ⟨b, by rw [e]; exact q1, q2⟩

/-! ### The numbers, as a list of pairs (old, new) -/
def invL : List (Nat × Nat) → Nat → Option Nat
  | [], _ => none
  | (o, n) :: r, x => bif Nat.beq o x then some n else invL r x
def mpL : List (Nat × Nat) → Nat → Nat
  | [], x => x
  | (o, n) :: r, x => bif Nat.beq n x then o else mpL r x
def okP (n0 k1 : Nat) (L : List (Nat × Nat)) : Bool := Nat.ble n0 k1 && ((L.all fun p => Nat.beq (mpL L p.2) p.1 && Nat.blt p.2 k1) && (List.range n0).all fun i => match invL L i with | some j => Nat.beq j i | none => false)
theorem invL_mem : ∀ {L : List (Nat × Nat)} {o n : Nat}, invL L o = some n → (o, n) ∈ L
  | [], o, n, h => by cases h
  | (a, b) :: r, o, n, h => by
    simp only [invL] at h
    cases hb : Nat.beq a o with
    | true =>
      rw [hb] at h
      simp only [cond_true, Option.some.injEq] at h
      rw [← h, ← Nat.eq_of_beq_eq_true hb]
      exact List.mem_cons_self ..
    | false => rw [hb] at h; exact List.mem_cons_of_mem _ (invL_mem h)
theorem okP_ren {n0 k1 : Nat} {L : List (Nat × Nat)} (h : okP n0 k1 L = true) : Ren n0 k1 (invL L) (mpL L) := by
  unfold okP at h
  simp only [Bool.and_eq_true, List.all_eq_true] at h
  obtain ⟨h1, h2, h3⟩ := h
  refine ⟨Nat.le_of_ble_eq_true h1, fun {o n} hi => ?_, fun {i} hi => ?_⟩
  · have := h2 _ (invL_mem hi)
    exact ⟨Nat.eq_of_beq_eq_true this.1, Nat.le_of_ble_eq_true this.2⟩
  · have := h3 i (List.mem_range.2 hi)
    split at this
    · rename_i j hj; rw [hj, Nat.eq_of_beq_eq_true this]
    · cases this
def coverR (L : List (Nat × Nat)) (heap : List (Nat × Option Blk)) (env : List (Nat × V)) : List (Nat × V) → Prop
  | [] => True
  | (t, v) :: r => (∃ u, getE env t = some u ∧ sv (invL L) heap u = some v) ∧ coverR L heap env r
theorem coverR_spec {L : List (Nat × Nat)} {heap : List (Nat × Option Blk)} {env : List (Nat × V)} : ∀ {e : List (Nat × V)}, coverR L heap env e → ∀ t v, getE e t = some v → ∃ u, getE env t = some u ∧ sv (invL L) heap u = some v
  | [], _, t, v, h => by simp [getE] at h
  | (s, x) :: r, hc, t, v, h => by
    simp only [getE] at h
    cases hb : Nat.beq s t with
    | true => rw [hb] at h; simp only [cond_true, Option.some.injEq] at h; rw [← h, ← Nat.eq_of_beq_eq_true hb]; exact hc.1
    | false => rw [hb] at h; exact coverR_spec hc.2 t v h
def coverRH (L : List (Nat × Nat)) (heap : List (Nat × Option Blk)) : List (Nat × Option Blk) → Prop
  | [] => True
  | (id, none) :: r => coverRH L heap r
  | (id, some B') :: r => (invL L (mpL L id) = some id ∧ ∃ B, getH heap (mpL L id) = some B ∧ svB (invL L) heap B = some B') ∧ coverRH L heap r
theorem coverRH_spec {L : List (Nat × Nat)} {heap : List (Nat × Option Blk)} : ∀ {e : List (Nat × Option Blk)}, coverRH L heap e → ∀ id B', getH e id = some B' → invL L (mpL L id) = some id ∧ ∃ B, getH heap (mpL L id) = some B ∧ svB (invL L) heap B = some B'
  | [], _, t, v, h => by simp [getH] at h
  | (s, none) :: r, hc, t, v, h => by
    rw [getH_new] at h
    split at h
    · cases h
    · exact coverRH_spec (e := r) hc t v h
  | (s, some u) :: r, hc, t, v, h => by
    rw [getH_new] at h
    split at h
    · rename_i e; subst e; injection h with h; subst h; exact hc.1
    · exact coverRH_spec (e := r) hc.2 t v h
/-- under other numbers, as far as kept -/
theorem less_ren {st st' : St} (L : List (Nat × Nat)) (hL : okP n0 st'.next L = true) (hc : coverR L st.heap st.env st'.env) (hh : coverRH L st.heap st'.heap) (hnt : st'.nt = st.nt) : Less P n0 st st' :=
  fun F base w0 ρ a w hH hE => by
    have hr := okP_ren hL
    have hh := coverRH_spec hh
    refine ⟨renρ ρ (invL L) (mpL L), ren_heap hr hH hh, ⟨by rw [hnt]; exact hE.size, hE.defers, fun t v hv => ?_⟩, fun id hid => renρ_of hr (hr.low hid)⟩
    obtain ⟨u, h1, h2⟩ := coverR_spec hc t v hv
    exact sv_spec hr hH hh (hE.slot t u h1) h2

/-! ### The pairs, found -/
def pairV : V → V → List (Nat × Nat)
  | .own a, .own b => [(a, b)]
  | .ptr a _ _ _, .ptr b _ _ _ => [(a, b)]
  | .agg cs, .agg ds => pairL cs ds
  | .tup cs, .tup ds => pairL cs ds
  | .clo _ cs, .clo _ ds => pairL cs ds
  | _, _ => []
where pairL : List V → List V → List (Nat × Nat)
  | c :: cs, d :: ds => pairV c d ++ pairL cs ds
  | _, _ => []
def pairE (env : List (Nat × V)) : List (Nat × V) → List (Nat × Nat)
  | [] => []
  | (t, v) :: r => match getE env t with
    | some u => pairV u v ++ pairE env r
    | none => pairE env r
def pairH (L : List (Nat × Nat)) (heap : List (Nat × Option Blk)) : List (Nat × Option Blk) → List (Nat × Nat)
  | [] => []
  | (id, some (.box _ ds)) :: r => match getH heap (mpL L id) with
    | some (.box _ cs) => pairV.pairL cs ds ++ pairH L heap r
    | _ => pairH L heap r
  | _ :: r => pairH L heap r
def lowP : Nat → List (Nat × Nat)
  | 0 => []
  | n + 1 => (n, n) :: lowP n
def pairs (n0 : Nat) (st st' : St) : List (Nat × Nat) := (lowP n0 ++ pairE st.env st'.env) ++ pairH (lowP n0 ++ pairE st.env st'.env) st.heap st'.heap
inductive NormP : List (Nat × Nat) → List (Nat × Nat) → Prop
  | nil : NormP [] []
  | cons {a b : Nat} {l m : List (Nat × Nat)} (h : NormP l m) : NormP ((a, b) :: l) ((a, b) :: m)
theorem ex_sv {L : List (Nat × Nat)} {heap : List (Nat × Option Blk)} {env : List (Nat × V)} {t : Nat} {u v : V} (h : getE env t = some u) (h2 : sv (invL L) heap u = some v) : ∃ u, getE env t = some u ∧ sv (invL L) heap u = some v := ⟨u, h, h2⟩
theorem ex_int {L : List (Nat × Nat)} {heap : List (Nat × Option Blk)} {env : List (Nat × V)} {t : Nat} {k : IntKind} {m n : Int} (h : getE env t = some (.lit (.int k m))) (h2 : m = n) : ∃ u, getE env t = some u ∧ sv (invL L) heap u = some (.lit (.int k n)) := ⟨_, h, by rw [h2]; rfl⟩
theorem ex_ro {L : List (Nat × Nat)} {heap : List (Nat × Option Blk)} {env : List (Nat × V)} {t : Nat} {l m : List (List V)} (h : getE env t = some (.ro l)) (h2 : l = m) : ∃ u, getE env t = some u ∧ sv (invL L) heap u = some (.ro m) := ⟨_, h, by rw [h2]; rfl⟩
theorem ex_blk {L : List (Nat × Nat)} {heap : List (Nat × Option Blk)} {id : Nat} {B B' : Blk} (h : getH heap (mpL L id) = some B) (h2 : svB (invL L) heap B = some B') (h3 : invL L (mpL L id) = some id) : invL L (mpL L id) = some id ∧ ∃ B, getH heap (mpL L id) = some B ∧ svB (invL L) heap B = some B' := ⟨h3, B, h, h2⟩
theorem ex_row {L : List (Nat × Nat)} {heap : List (Nat × Option Blk)} {id : Nat} {e s : Nat} {l m : List (List V)} (h : getH heap (mpL L id) = some (.row e s l)) (h2 : l = m) (h3 : invL L (mpL L id) = some id) : invL L (mpL L id) = some id ∧ ∃ B, getH heap (mpL L id) = some B ∧ svB (invL L) heap B = some (.row e s m) := ⟨h3, _, h, by rw [h2]; rfl⟩
theorem less_by {st st' : St} {L : List (Nat × Nat)} (hN : NormP (pairs n0 st st') L) (hL : okP n0 st'.next L = true) (hc : coverR L st.heap st.env st'.env) (hh : coverRH L st.heap st'.heap) (hnt : st'.nt = st.nt) : Less P n0 st st' := less_ren L hL hc hh hnt

theorem wk_t {p : Prop} [Decidable p] (h : p) : Wk (.lit (.bool true)) (.lit (.bool (decide p))) := by rw [decide_eq_true h]; exact .refl _
theorem wk_f {p : Prop} [Decidable p] (h : ¬ p) : Wk (.lit (.bool false)) (.lit (.bool (decide p))) := by rw [decide_eq_false h]; exact .refl _
theorem wk_int {k : IntKind} {m n : Int} (h : m = n) : Wk (.lit (.int k m)) (.lit (.int k n)) := by rw [h]; exact .refl _
end
end Go.Proofs.Ytnbbnedpjfanoaa
