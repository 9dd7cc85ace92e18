/-
  ranges.Holes and the reference's: what each answers. No condition.
-/
import Derived.Test.YtfdomanbdfekhaaRgsCut
set_option linter.unusedVariables false
set_option linter.unusedSimpArgs false
set_option linter.unusedVariables false
namespace Go.Proofs.Ytfdomanbdfekhaa
set_option maxRecDepth 100000
attribute [local irreducible] Run RunL QStep GStep Fn Less PL

theorem wf_good {x : DRange} (h : rGood x) : wfRange x := by unfold rGood at h; unfold wfRange I64; omega
theorem wf_set {l : List DRange} {a : Int} (h : rSet a l) : ∀ y, y ∈ l → wfRange y := fun y hy => wf_good (rSet_good h y hy).1
/-- P3.4: what is left of a range -/
def hol (l : List DRange) (r : DRange) (k : Nat) : List DRange := (l.take k).foldl rCut [r]
theorem hol_snoc {l : List DRange} {k : Nat} (h : k < l.length) (r : DRange) : hol l r (k + 1) = rCut (hol l r k) (l.getD k default) := by
  unfold hol; rw [take_snoc h, List.foldl_append]; rfl
theorem hol_set {l : List DRange} {r : DRange} (hs : rSet (-2) l) (hr : rGood r) : ∀ k, k ≤ l.length → rSet (-2) (hol l r k) ∧ (hol l r k).length ≤ k + 1
  | 0, _ => ⟨⟨hr, by unfold rGood at hr; omega, trivial⟩, by simp [hol]⟩
  | k + 1, hk => by
    obtain ⟨h1, h2⟩ := hol_set hs hr k (by omega)
    have hg := (rSet_good hs _ (getD_mem (show k < l.length by omega))).1
    rw [hol_snoc (by omega)]
    exact ⟨rCut_set hg h1, by have := rCut_len hg h1; omega⟩
def rHoles (l : List DRange) (r : DRange) : List DRange × Int := if rgFlt l r ≠ 0 then ([], rgFlt l r) else (hol l r l.length, 0)
theorem rCutR_ok {l : List DRange} {r : DRange} (hs : rSet (-2) l) (hr : rGood r) : rCutR l r = (rCut l r, 0) := by
  have h : rgFlt l r = 0 := by unfold rgFlt rFlt; rw [if_pos hs, if_neg (by omega), if_pos hr]
  unfold rCutR; rw [h, if_neg (by omega)]
/-- the reference's way -/
def hStep (r : DRange) (s : Int × List DRange) (x : DRange) : Int × List DRange :=
  if x.Hi < r.Lo ∨ r.Hi < x.Lo then s else (x.Hi + 1, s.2 ++ (if s.1 < x.Lo then [⟨s.1, x.Lo - 1⟩] else []))
def hSt (l : List DRange) (r : DRange) (k : Nat) : Int × List DRange := (l.take k).foldl (hStep r) (r.Lo, [])
theorem hSt_snoc {l : List DRange} {k : Nat} (h : k < l.length) (r : DRange) : hSt l r (k + 1) = hStep r (hSt l r k) (l.getD k default) := by
  unfold hSt; rw [take_snoc h, List.foldl_append]; rfl
def hEnd (r : DRange) (s : Int × List DRange) : List DRange := s.2 ++ (if s.1 ≤ r.Hi then [⟨s.1, r.Hi⟩] else [])
theorem rCut_below {x : DRange} : ∀ {out : List DRange}, (∀ y ∈ out, y.Lo ≤ y.Hi ∧ y.Hi < x.Lo) → x.Lo ≤ x.Hi → rCut out x = out
  | [], _, _ => rfl
  | y :: out, h, hx => by
    obtain ⟨h1, h2⟩ := h y (List.mem_cons_self ..)
    rw [rCut_cons, rCut_below (fun z hz => h z (List.mem_cons_of_mem _ hz)) hx]
    unfold cut1
    rw [if_pos (by omega), if_neg (by omega), Int.min_eq_left (by omega)]
    rfl
theorem hol_ref {r : DRange} (hr : rGood r) : ∀ (l : List DRange) (a : Int) (s : Int × List DRange), rSet a l → (∀ y ∈ s.2, y.Lo ≤ y.Hi ∧ y.Hi ≤ a + 1) → r.Lo ≤ s.1 → (s.1 ≤ a + 1 ∨ s.1 = r.Lo) →
    l.foldl rCut (hEnd r s) = hEnd r (l.foldl (hStep r) s)
  | [], _, _, _, _, _, _ => rfl
  | x :: l, a, (at', out), h, hy, h1, h2 => by
    have hx := h.1
    have ha := h.2.1
    unfold rGood at hr hx
    dsimp only at hy h1 h2
    rw [List.foldl_cons, List.foldl_cons]
    have hstep : rCut (hEnd r (at', out)) x = hEnd r (hStep r (at', out) x) := by
      unfold hEnd
      rw [rCut_app, rCut_below (fun y h => by have := hy y h; omega) (by omega)]
      unfold hStep
      dsimp only
      by_cases c1 : x.Hi < r.Lo ∨ r.Hi < x.Lo
      · rw [if_pos c1]
        dsimp only
        by_cases c2 : at' ≤ r.Hi
        · rw [if_pos c2, rCut_one]
          unfold cut1
          dsimp only
          rcases c1 with c1 | c1
          · rw [if_neg (by omega), if_pos (by omega), Int.max_eq_left (by omega)]; rfl
          · rw [if_pos (by omega), if_neg (by omega), Int.min_eq_left (by omega)]; rfl
        · rw [if_neg c2]; rfl
      · rw [if_neg c1]
        dsimp only
        by_cases c2 : at' ≤ r.Hi
        · rw [if_pos c2, rCut_one]
          unfold cut1
          dsimp only
          by_cases c3 : at' < x.Lo
          · rw [if_pos c3, if_pos c3, Int.min_eq_right (by omega)]
            by_cases c4 : x.Hi < r.Hi
            · rw [if_pos c4, if_pos (by omega), Int.max_eq_right (by omega), List.append_assoc]
            · rw [if_neg c4, if_neg (by omega), List.append_assoc]
          · rw [if_neg c3, if_neg c3]
            by_cases c4 : x.Hi < r.Hi
            · rw [if_pos c4, if_pos (by omega), Int.max_eq_right (by omega), List.append_nil]; rfl
            · rw [if_neg c4, if_neg (by omega)]; simp
        · exfalso; omega
    rw [hstep]
    refine hol_ref hr l x.Hi _ h.2.2 ?_ ?_ ?_
    · unfold hStep
      split
      · intro y h; have := hy y h; exact ⟨this.1, by omega⟩
      · intro y h
        dsimp only at h
        rw [List.mem_append] at h
        rcases h with h | h
        · have := hy y h; exact ⟨this.1, by omega⟩
        · split at h
          · rw [List.mem_singleton] at h; subst h; dsimp only; omega
          · cases h
    · unfold hStep; split <;> dsimp only <;> omega
    · unfold hStep; split <;> dsimp only <;> omega
theorem hol_end {l : List DRange} {r : DRange} (hs : rSet (-2) l) (hr : rGood r) : hol l r l.length = hEnd r (hSt l r l.length) := by
  have h := hol_ref hr l (-2) (r.Lo, []) hs (fun y h => by cases h) (Int.le_refl _) (.inr rfl)
  unfold hol hSt
  rw [List.take_length, ← h]
  unfold hEnd
  have := hr.2.1
  rw [if_pos (by dsimp only; omega)]
  rfl
theorem hSt_inv {l : List DRange} {r : DRange} (hs : rSet (-2) l) (hr : rGood r) : ∀ k, k ≤ l.length → 0 ≤ (hSt l r k).1 ∧ (hSt l r k).1 ≤ 4611686018427387904 ∧ (hSt l r k).2.length ≤ k
  | 0, _ => by unfold hSt; unfold rGood at hr; simp; omega
  | k + 1, hk => by
    obtain ⟨h1, h2, h3⟩ := hSt_inv hs hr k (by omega)
    have hg := (rSet_good hs _ (getD_mem (show k < l.length by omega))).1
    unfold rGood at hg
    rw [hSt_snoc (by omega)]
    unfold hStep
    split
    · omega
    · refine ⟨by dsimp only; omega, by dsimp only; omega, ?_⟩
      dsimp only
      rw [List.length_append]
      split <;> simp <;> omega
end Go.Proofs.Ytfdomanbdfekhaa
