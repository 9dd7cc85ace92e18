/-
  ranges.Cut and ranges.Holes, and the reference's: what each answers. No condition.
-/
import Derived.Test.YthpophgcmgdpjaaGo
import Derived.Test.YthpophgcmgdpjaaRgs
set_option linter.unusedVariables false
set_option linter.unusedSimpArgs false
set_option linter.unusedVariables false
namespace Go.Proofs.Ythpophgcmgdpjaa
set_option maxRecDepth 100000
attribute [local irreducible] Run RunL QStep GStep Fn Less PL

/-- what a range leaves of another -/
def cut1 (r x : DRange) : List DRange := (if x.Lo < r.Lo then [⟨x.Lo, min x.Hi (r.Lo - 1)⟩] else []) ++ (if r.Hi < x.Hi then [⟨max x.Lo (r.Hi + 1), x.Hi⟩] else [])
def rCut (l : List DRange) (r : DRange) : List DRange := l.flatMap (cut1 r)
theorem rCut_nil (r : DRange) : rCut [] r = [] := rfl
theorem rCut_cons (x r : DRange) (l : List DRange) : rCut (x :: l) r = cut1 r x ++ rCut l r := rfl
theorem rCut_app (l m : List DRange) (r : DRange) : rCut (l ++ m) r = rCut l r ++ rCut m r := by unfold rCut; rw [List.flatMap_append]
theorem rCut_one (x r : DRange) : rCut [x] r = cut1 r x := by rw [rCut_cons, rCut_nil, List.append_nil]
theorem rSet_weak : ∀ {l : List DRange} {a b : Int}, rSet a l → b ≤ a → rSet b l
  | [], _, _, _, _ => trivial
  | r :: l, a, b, h, hb => ⟨h.1, by have := h.2.1; omega, h.2.2⟩
theorem rSet_good : ∀ {l : List DRange} {a : Int}, rSet a l → ∀ x ∈ l, rGood x ∧ a + 2 ≤ x.Lo
  | r :: l, a, h, x, hx => by
    rcases List.mem_cons.1 hx with rfl | hx
    · exact ⟨h.1, h.2.1⟩
    · have := rSet_good h.2.2 x hx
      have h1 := h.1
      have h2 := h.2.1
      unfold rGood at h1
      exact ⟨this.1, by omega⟩
theorem rSet_take : ∀ {l : List DRange} {a : Int} (k : Nat), rSet a l → rSet a (l.take k)
  | [], _, k, h => by simp [rSet]
  | r :: l, a, 0, h => trivial
  | r :: l, a, k + 1, h => ⟨h.1, h.2.1, rSet_take k h.2.2⟩
/-- what is cut out of what lies behind it grows by nothing -/
theorem rCut_len0 {r : DRange} (hr : rGood r) : ∀ {l : List DRange} {a : Int}, rSet a l → r.Hi ≤ a + 1 → (rCut l r).length ≤ l.length
  | [], _, _, _ => by simp [rCut]
  | x :: l, a, h, ha => by
    have h1 := h.1
    have h2 := h.2.1
    have := rCut_len0 hr (a := x.Hi) h.2.2 (by unfold rGood at h1; omega)
    rw [rCut_cons, List.length_append, List.length_cons]
    unfold cut1
    unfold rGood at hr
    rw [if_neg (by omega)]
    split <;> simp <;> omega
theorem rCut_len {r : DRange} (hr : rGood r) : ∀ {l : List DRange} {a : Int}, rSet a l → (rCut l r).length ≤ l.length + 1
  | [], _, _ => by simp [rCut]
  | x :: l, a, h => by
    have h1 := h.1
    have h3 := rCut_len hr (a := x.Hi) h.2.2
    rw [rCut_cons, List.length_append, List.length_cons]
    unfold cut1
    by_cases hc : r.Hi < x.Hi
    · have := rCut_len0 hr (a := x.Hi) h.2.2 (by omega)
      rw [if_pos hc]
      split <;> simp <;> omega
    · rw [if_neg hc]
      split <;> simp <;> omega
/-- what is left is a set -/
theorem rCut_set {r : DRange} (hr : rGood r) : ∀ {l : List DRange} {a : Int}, rSet a l → rSet a (rCut l r)
  | [], _, _ => trivial
  | x :: l, a, h => by
    have h1 := h.1
    have h2 := h.2.1
    have h3 := rCut_set hr (a := x.Hi) h.2.2
    rw [rCut_cons]
    unfold cut1
    unfold rGood at hr h1
    by_cases c1 : x.Lo < r.Lo
    · by_cases c2 : r.Hi < x.Hi
      · rw [if_pos c1, if_pos c2]
        exact ⟨by unfold rGood; dsimp only; omega, by dsimp only; omega, by unfold rGood; dsimp only; omega, by dsimp only; omega, h3⟩
      · rw [if_pos c1, if_neg c2]
        exact ⟨by unfold rGood; dsimp only; omega, by dsimp only; omega, rSet_weak h3 (by dsimp only; omega)⟩
    · by_cases c2 : r.Hi < x.Hi
      · rw [if_neg c1, if_pos c2]
        exact ⟨by unfold rGood; dsimp only; omega, by dsimp only; omega, h3⟩
      · rw [if_neg c1, if_neg c2]
        exact rSet_weak h3 (by omega)
theorem rFlt_set {l : List DRange} (h : rFlt l = 0) : rSet (-2) l := by
  unfold rFlt at h
  split at h
  · assumption
  · cases h
theorem rgFlt_ok {l : List DRange} {r : DRange} (h : rgFlt l r = 0) : rSet (-2) l ∧ rGood r := by
  unfold rgFlt at h
  split at h
  · omega
  · split at h
    · exact ⟨rFlt_set (by omega), by assumption⟩
    · cases h
/-- P3.3 -/
def rCutR (l : List DRange) (r : DRange) : List DRange × Int := if rgFlt l r ≠ 0 then ([], rgFlt l r) else (rCut l r, 0)
theorem take_flat {l : List DRange} {k : Nat} (h : k < l.length) (r : DRange) : rCut (l.take (k + 1)) r = rCut (l.take k) r ++ cut1 r (l.getD k default) := by
  rw [take_snoc h, rCut_app, rCut_one]
/-- the reference's out, within the round of place k -/
def wSt (l : List DRange) (r : DRange) (k : Nat) : Nat → List DRange
  | 0 => rCut (l.take k) r
  | 1 => rCut (l.take k) r ++ (if (l.getD k default).Lo < r.Lo then [DRange.mk (l.getD k default).Lo (min (l.getD k default).Hi (r.Lo - 1))] else [])
  | _ => rCut (l.take (k + 1)) r
theorem wSt0 (l : List DRange) (r : DRange) (k : Nat) : wSt l r k 0 = rCut (l.take k) r := rfl
theorem wSt1 (l : List DRange) (r : DRange) (k : Nat) : wSt l r k 1 = rCut (l.take k) r ++ (if (l.getD k default).Lo < r.Lo then [DRange.mk (l.getD k default).Lo (min (l.getD k default).Hi (r.Lo - 1))] else []) := rfl
theorem wSt2 (l : List DRange) (r : DRange) (k : Nat) : wSt l r k 2 = rCut (l.take (k + 1)) r := rfl
end Go.Proofs.Ythpophgcmgdpjaa
