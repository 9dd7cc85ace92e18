/-
  Fields told ahead: the plain part. No condition.
-/
import Derived.Test.YthpophgcmgdpjaaEyeF
import Derived.Test.YthpophgcmgdpjaaTabZ
import Derived.Test.YthpophgcmgdpjaaTabI
set_option linter.unusedVariables false
set_option linter.unusedSimpArgs false
set_option linter.unusedVariables false
namespace Go.Proofs.Ythpophgcmgdpjaa
set_option maxRecDepth 100000
attribute [local irreducible] Run RunL QStep GStep Fn Less PL FnM

theorem fSum_len : ∀ (l : List DField), 32 * l.length ≤ fSum l
  | [] => by simp [fSum]
  | f :: l => by have := fSum_len l; unfold fSum; unfold fLen; simp only [List.length_cons]; omega
theorem tabOk_len {t : DTable} (h : tabOk t) : t.Rows.length ≤ 5 := by
  have := fSum_len t.Rows
  obtain ⟨⟨_, h2, _⟩, _, h4⟩ := h
  omega
theorem fldOk_wf {f : DField} (h : fldOk f) : wfField f := by unfold fldOk at h; unfold wfField; omega
theorem tabOk_wf {t : DTable} (h : tabOk t) : wfTable t := by
  have hl := tabOk_len h
  obtain ⟨⟨h1, h2, h3, h4⟩, h5, h6⟩ := h
  unfold wfTable I64
  exact ⟨by omega, by omega, by omega, fun y hy => fldOk_wf (h5 y hy)⟩
theorem tabOk_fit {t : DTable} (h : tabOk t) : fitL t.Room t.Rows = t.Rows := fitL_ok h.2.2
theorem tabOk_resize {t : DTable} (h : tabOk t) {n : Int} (hn : 0 ≤ n) (hm : n ≤ 160) : tabOk ⟨n, t.Put, fitL n t.Rows⟩ := by
  have hl := fitL_len n t.Rows
  obtain ⟨⟨h1, h2, h3, h4⟩, h5, h6⟩ := h
  exact ⟨⟨hn, hm, by dsimp only; omega, h4⟩, fun f hf => h5 f (fitL_mem hf), fitL_sum hn⟩
theorem tabOk_ins {t : DTable} (h : tabOk t) {f : DField} (he : tInsE t f = 0) : tabOk ⟨t.Room, t.Put + 1, fitL t.Room (t.Rows ++ [f])⟩ := by
  have hl := fitL_len t.Room (t.Rows ++ [f])
  rw [List.length_append, List.length_singleton] at hl
  obtain ⟨⟨h1, h2, h3, h4⟩, h5, h6⟩ := h
  unfold tInsE at he
  split at he
  · cases he
  · rename_i hf
    split at he
    · cases he
    · split at he
      · cases he
      · refine ⟨⟨h1, h2, by dsimp only; omega, by dsimp only; omega⟩, fun g hg => ?_, fitL_sum h1⟩
        rcases List.mem_append.1 (fitL_mem hg) with hg | hg
        · exact h5 g hg
        · rw [List.mem_singleton.1 hg]; exact Classical.byContradiction hf
theorem resize_ok {t : DTable} (h : tabOk t) {n : Int} : ((tabResize t n).2 = 0 → tabOk (tabResize t n).1) ∧ ¬ (tabResize t n).2 = 4 := by
  unfold tabResize
  rw [tabFlt_t h, if_neg (by omega)]
  split
  · exact ⟨fun h => (by cases h), by decide⟩
  · exact ⟨fun _ => tabOk_resize h (by omega) (by omega), by dsimp only; omega⟩
theorem resize_self {t : DTable} (h : tabOk t) : tabResize t t.Room = (t, 0) := by
  unfold tabResize
  have := h.1
  rw [tabFlt_t h, if_neg (by omega), if_neg (by omega), tabOk_fit h]
theorem ins_ok {t : DTable} (h : tabOk t) {f : DField} : ((tabIns t f).2 = 0 → tabOk (tabIns t f).1) ∧ ¬ (tabIns t f).2 = 4 := by
  unfold tabIns
  rw [tabFlt_t h, if_neg (by omega)]
  by_cases he : tInsE t f = 0
  · rw [if_neg (by omega)]
    exact ⟨fun _ => tabOk_ins h he, by dsimp only; omega⟩
  · rw [if_pos he]
    refine ⟨fun h => absurd h he, ?_⟩
    unfold tInsE
    dsimp only
    split
    · decide
    · split
      · decide
      · split <;> decide
theorem numF_ok {s : List UInt8} {w : Int} (h : (numF s w 0).2.2 = 0) : (numF s w 0).2.1.length < s.length ∧ 0 ≤ (numF s w 0).1 ∧ (numF s w 0).1 ≤ 4611686018427387903 := by
  unfold numF at *
  rw [if_neg (by omega)] at h ⊢
  rcases hp : preD s w with ⟨a, b, e⟩
  rw [hp] at h
  dsimp only at h ⊢
  split at h
  · contradiction
  · rename_i he
    have he : e = 0 := by omega
    subst he
    obtain ⟨n, k, rfl, rfl, hn, hk, hkl⟩ := preD_ok hp
    rw [if_neg (by omega)]
    dsimp only
    rw [Int.toNat_natCast, List.length_drop]
    omega
theorem numF_le {s : List UInt8} {w e : Int} : (numF s w e).2.1.length ≤ s.length := by
  unfold numF
  split
  · exact Nat.le_refl _
  · split
    · exact Nat.le_refl _
    · rw [List.length_drop]; omega
theorem txtF_le {s : List UInt8} {w e : Int} : (txtF s w e).2.1.length ≤ s.length := by
  unfold txtF
  split
  · exact Nat.le_refl _
  · split
    · exact Nat.le_refl _
    · rw [List.length_drop]; omega
theorem txtF_small {s : List UInt8} {w e : Int} : (txtF s w e).1.length ≤ 120 := by
  unfold txtF
  split
  · simp
  · split <;> exact txtD_len
theorem txtF_ok {s : List UInt8} {w e : Int} (h : (txtF s w e).2.2 = 0) : e = 0 ∧ (txtF s w e).2.1.length < s.length := by
  unfold txtF at *
  split at h
  · contradiction
  · rename_i he
    refine ⟨by omega, ?_⟩
    rw [if_neg he]
    split at h
    · contradiction
    · rename_i h2
      rw [if_neg h2]
      obtain ⟨k, h3, h4, h5, _⟩ := txtD_ok (show (txtD s w).2.2 = 0 by omega)
      dsimp only
      rw [h3, Int.toNat_natCast, List.length_drop]
      omega
theorem txtF_err {s : List UInt8} {w e : Int} (h : ¬ e = 0) : txtF s w e = ([], s, e) := by unfold txtF; rw [if_pos h]
/-- P15.5, a step: the table then, what is left, what is wrong -/
noncomputable def apStep (t : DTable) (s : List UInt8) : DTable × List UInt8 × Int :=
  if 32 ≤ (s.getD 0 default).toNat ∧ (s.getD 0 default).toNat < 64 then
    (if (numF s 5 0).2.2 ≠ 0 then (t, s, (numF s 5 0).2.2) else ((tabResize t (numF s 5 0).1).1, (numF s 5 0).2.1, (tabResize t (numF s 5 0).1).2))
  else if 64 ≤ (s.getD 0 default).toNat ∧ (s.getD 0 default).toNat < 96 then
    (if (txtF (txtF s 5 0).2.1 7 (txtF s 5 0).2.2).2.2 ≠ 0 then (t, s, (txtF (txtF s 5 0).2.1 7 (txtF s 5 0).2.2).2.2)
     else ((tabIns t ⟨(txtF s 5 0).1, (txtF (txtF s 5 0).2.1 7 (txtF s 5 0).2.2).1⟩).1, (txtF (txtF s 5 0).2.1 7 (txtF s 5 0).2.2).2.1, (tabIns t ⟨(txtF s 5 0).1, (txtF (txtF s 5 0).2.1 7 (txtF s 5 0).2.2).1⟩).2))
  else (t, s, 2)
theorem apStep_ok {t : DTable} {s : List UInt8} (ht : tabOk t) (h : (apStep t s).2.2 = 0) : tabOk (apStep t s).1 ∧ (apStep t s).2.1.length < s.length := by
  unfold apStep at *
  split at h
  · rename_i hc
    rw [if_pos hc]
    split at h
    · contradiction
    · rename_i he
      rw [if_neg he]
      exact ⟨(resize_ok ht).1 h, (numF_ok (by omega)).1⟩
  · rename_i hc
    rw [if_neg hc]
    split at h
    · rename_i hc2
      rw [if_pos hc2]
      split at h
      · contradiction
      · rename_i he
        rw [if_neg he]
        have h2 := txtF_ok (s := (txtF s 5 0).2.1) (w := 7) (e := (txtF s 5 0).2.2) (by omega)
        have h3 := txtF_ok (s := s) (w := 5) (e := 0) h2.1
        exact ⟨(ins_ok ht).1 h, by dsimp only; omega⟩
    · cases h
/-- P15.5: the table then, what is left, what is wrong -/
noncomputable def apRun : Nat → DTable → List UInt8 → DTable × List UInt8 × Int
  | 0, t, s => (t, s, 0)
  | n + 1, t, s => if s.length = 0 then (t, s, 0) else if (apStep t s).2.2 = 4 then (t, s, 0) else if (apStep t s).2.2 ≠ 0 then (tabZero, [], (apStep t s).2.2) else apRun n (apStep t s).1 (apStep t s).2.1
noncomputable def apR (t : DTable) (b : List UInt8) : DTable × Int × Int :=
  if tabFlt t ≠ 0 then (tabZero, 0, tabFlt t) else
  if (apRun b.length t b).2.2 ≠ 0 then (tabZero, 0, (apRun b.length t b).2.2) else ((apRun b.length t b).1, (b.length : Int) - (apRun b.length t b).2.1.length, 0)
theorem apRun_ok : ∀ {n : Nat} {t : DTable} {s : List UInt8}, tabOk t → ((apRun n t s).2.2 = 0 → tabOk (apRun n t s).1 ∧ (apRun n t s).2.1.length ≤ s.length) ∧ ((apRun n t s).2.2 ≠ 0 → (apRun n t s).1 = tabZero)
  | 0, t, s, h => ⟨fun _ => ⟨h, Nat.le_refl _⟩, fun h => absurd rfl h⟩
  | n + 1, t, s, h => by
    unfold apRun
    split
    · exact ⟨fun _ => ⟨h, Nat.le_refl _⟩, fun h => absurd rfl h⟩
    · split
      · exact ⟨fun _ => ⟨h, Nat.le_refl _⟩, fun h => absurd rfl h⟩
      · split
        · rename_i h2
          exact ⟨fun q => absurd q h2, fun _ => rfl⟩
        · rename_i h1 h2
          have hk := apStep_ok h (show (apStep t s).2.2 = 0 by omega)
          have := apRun_ok (n := n) (s := (apStep t s).2.1) hk.1
          exact ⟨fun q => ⟨(this.1 q).1, by have := (this.1 q).2; omega⟩, this.2⟩
theorem apR_wf (t : DTable) (b : List UInt8) : wfTable (apR t b).1 := by
  have hz : wfTable tabZero := by unfold wfTable tabZero I64; simp
  unfold apR
  split
  · exact hz
  · rename_i h
    have ht : tabOk t := by
      rcases tabFlt_cases t with ⟨_, h2⟩ | ⟨h1, _⟩
      · exact h2
      · omega
    split
    · exact hz
    · rename_i h2
      exact tabOk_wf ((apRun_ok ht).1 (by omega)).1
end Go.Proofs.Ythpophgcmgdpjaa
