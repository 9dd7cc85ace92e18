/-
  fields.Decode: the plain part, the eye's lines, and fields.Check. No condition.
-/
import Derived.Test.YthpophgcmgdpjaaGo
import Derived.Test.YthpophgcmgdpjaaKnownF
import Derived.Test.YthpophgcmgdpjaaFldP
import Derived.Test.YthpophgcmgdpjaaTabG
set_option linter.unusedVariables false
set_option linter.unusedSimpArgs false
set_option linter.unusedVariables false
namespace Go.Proofs.Ythpophgcmgdpjaa
set_option maxRecDepth 100000
attribute [local irreducible] Run RunL QStep GStep Fn Less PL FnM

def fZ : DField := ⟨[], []⟩
theorem knownL_len : knownL.length = 11 := rfl
/-- a known field taken -/
def knF (s : List UInt8) (w : Int) : DField × List UInt8 × Int :=
  if (numF s w 0).2.2 ≠ 0 then (fZ, (numF s w 0).2.1, (numF s w 0).2.2) else if 11 ≤ (numF s w 0).1 then (fZ, (numF s w 0).2.1, 5) else (knownL.getD (numF s w 0).1.toNat default, (numF s w 0).2.1, 0)
/-- a line taken -/
noncomputable def lineF (t : DTable) (need : Int) (s : List UInt8) : DField × List UInt8 × Int :=
  if 192 ≤ (s.getD 0 default).toNat then knF s 6
  else if 128 ≤ (s.getD 0 default).toNat then
    (if (numF s 6 0).2.2 ≠ 0 then (fZ, (numF s 6 0).2.1, (numF s 6 0).2.2) else if need ≤ (numF s 6 0).1 then (fZ, (numF s 6 0).2.1, 6)
     else ((tabGet t (need - 1 - (numF s 6 0).1)).1, (numF s 6 0).2.1, (tabGet t (need - 1 - (numF s 6 0).1)).2))
  else if 64 ≤ (s.getD 0 default).toNat ∧ (s.getD 0 default).toNat < 80 then
    (⟨(knF s 4).1.Name, (txtF (knF s 4).2.1 7 (knF s 4).2.2).1⟩, (txtF (knF s 4).2.1 7 (knF s 4).2.2).2.1, (txtF (knF s 4).2.1 7 (knF s 4).2.2).2.2)
  else if 32 ≤ (s.getD 0 default).toNat ∧ (s.getD 0 default).toNat < 40 then
    (⟨(txtF s 3 0).1, (txtF (txtF s 3 0).2.1 7 (txtF s 3 0).2.2).1⟩, (txtF (txtF s 3 0).2.1 7 (txtF s 3 0).2.2).2.1, (txtF (txtF s 3 0).2.1 7 (txtF s 3 0).2.2).2.2)
  else (fZ, s, 2)
theorem knF_le {s : List UInt8} {w : Int} : (knF s w).2.1.length ≤ s.length := by
  have := @numF_le s w 0
  unfold knF
  split
  · exact this
  · split <;> exact this
theorem knF_ok {s : List UInt8} {w : Int} (h : (knF s w).2.2 = 0) : (knF s w).2.1.length < s.length := by
  unfold knF at *
  split at h
  · contradiction
  · rename_i h1
    rw [if_neg h1]
    split at h
    · cases h
    · rename_i h2
      rw [if_neg h2]
      exact (numF_ok (by omega)).1
theorem lineF_ok {t : DTable} {need : Int} {s : List UInt8} (h : (lineF t need s).2.2 = 0) : (lineF t need s).2.1.length < s.length := by
  unfold lineF at *
  split at h
  · rename_i c
    rw [if_pos c]
    exact knF_ok h
  · rename_i c
    rw [if_neg c]
    split at h
    · rename_i c2
      rw [if_pos c2]
      split at h
      · contradiction
      · rename_i h1
        rw [if_neg h1]
        split at h
        · cases h
        · rename_i h2
          rw [if_neg h2]
          exact (numF_ok (by omega)).1
    · rename_i c2
      rw [if_neg c2]
      split at h
      · rename_i c3
        rw [if_pos c3]
        have h1 := txtF_ok h
        have h2 := knF_ok h1.1
        dsimp only
        omega
      · rename_i c3
        rw [if_neg c3]
        split at h
        · rename_i c4
          rw [if_pos c4]
          have h1 := txtF_ok h
          have h2 := txtF_ok h1.1
          dsimp only
          omega
        · cases h
set_option maxHeartbeats 4000000 in
theorem eyeKnown_fnm (s : List UInt8) (w : Int) (hs : s.length ≤ 1000000000000000) : FnM Try.prog 141 [.ptr 0 0 0 0, .lit (.int .i64 w)] [(0, some (.box 110 [.ro (s.map encB), .lit (.int .i64 0)]))] 1 (.agg (encField (knF s w).1)) [(0, some (.box 110 [.ro ((knF s w).2.1.map encB), .lit (.int .i64 (knF s w).2.2)]))] 1 := by
  have h1 := known_fn
  have g1 := numberF_fnm s w 0 hs
  have hk := @numF_ok s w
  have hK := knownL_len
  unfold knF
  generalize numF s w 0 = a at *
  obtain ⟨n, s1, e⟩ := a
  dsimp only at *
  by_cases he : e = 0
  · subst he
    rw [if_neg (by decide)]
    obtain ⟨k1, k2, k3⟩ := hk rfl
    obtain ⟨n, rfl⟩ := Int.eq_ofNat_of_zero_le k2
    rw [Int.toNat_natCast]
    generalize knownL = K at *
    clear hk
    by_cases h2 : 11 ≤ (n : Int)
    · rw [if_pos h2]
      refine fnm_of_run (by kernel_rfl) Try.func141 rfl (by kernel_rfl) (by rfl) ?_
      (repeat' first | (refine s_call (h1) (h := ?_)) | (refine p_call (h1) (h := ?_)) | (refine s_callM [0] (g1) (h := ?_)) | (refine s_callM0 [0] (g1) (h := ?_)) | (refine p_callM [0] (g1) (h := ?_)) | (refine go_ ?_; ((repeat' first | exact True.intro | refine Two.mk ?_ ?_); all_goals intros)) | fail "")
      all_goals first
        | (exact endmA_)
        | skip
    · rw [if_neg h2]
      refine fnm_of_run (by kernel_rfl) Try.func141 rfl (by kernel_rfl) (by rfl) ?_
      (repeat' first | (refine s_call (h1) (h := ?_)) | (refine p_call (h1) (h := ?_)) | (refine s_callM [0] (g1) (h := ?_)) | (refine s_callM0 [0] (g1) (h := ?_)) | (refine p_callM [0] (g1) (h := ?_)) | (refine go_ ?_; ((repeat' first | exact True.intro | refine Two.mk ?_ ?_); all_goals intros)) | fail "")
      all_goals first
        | (exact endmA_)
        | skip
  · rw [if_pos he]
    generalize knownL = K at *
    clear hk
    refine fnm_of_run (by kernel_rfl) Try.func141 rfl (by kernel_rfl) (by rfl) ?_
    (repeat' first | (refine s_call (h1) (h := ?_)) | (refine p_call (h1) (h := ?_)) | (refine s_callM [0] (g1) (h := ?_)) | (refine s_callM0 [0] (g1) (h := ?_)) | (refine p_callM [0] (g1) (h := ?_)) | (refine go_ ?_; ((repeat' first | exact True.intro | refine Two.mk ?_ ?_); all_goals intros)) | fail "")
    all_goals first
      | (exact endmA_)
      | skip
set_option maxHeartbeats 8000000 in
theorem line_fnm (t : DTable) (need : Int) (s : List UInt8) (hw : wfTable t) (hn : 0 ≤ need ∧ need ≤ 4611686018427387903) (hs0 : ¬ s.length = 0) (hs : s.length ≤ 1000000000000000) :
    FnM Try.prog 61 [.ptr 0 0 0 0, .agg (encTable t), .lit (.int .i64 need)] [(0, some (.box 110 [.ro (s.map encB), .lit (.int .i64 0)]))] 1 (.agg (encField (lineF t need s).1)) [(0, some (.box 110 [.ro ((lineF t need s).2.1.map encB), .lit (.int .i64 (lineF t need s).2.2)]))] 1 := by
  unfold lineF
  by_cases cA : 192 ≤ (s.getD 0 default).toNat
  · rw [if_pos cA]
    have g1 := eyeKnown_fnm s 6 hs
    generalize knF s 6 = a at *
    obtain ⟨⟨nm, vl⟩, s1, e⟩ := a
    dsimp only [encField] at *
    refine fnm_of_run (by kernel_rfl) Try.func61 rfl (by kernel_rfl) (by rfl) ?_
    (repeat' first | (refine s_callM [0] (g1) (h := ?_)) | (refine s_callM0 [0] (g1) (h := ?_)) | (refine p_callM [0] (g1) (h := ?_)) | (refine go_ ?_; ((repeat' first | exact True.intro | refine Two.mk ?_ ?_); all_goals intros)) | fail "")
    all_goals first
      | (exact endmA_)
      | skip
  rw [if_neg cA]
  by_cases cB : 128 ≤ (s.getD 0 default).toNat
  · rw [if_pos cB]
    have g1 := numberF_fnm s 6 0 hs
    have hk := @numF_ok s 6
    generalize numF s 6 0 = a at *
    obtain ⟨n, s1, e⟩ := a
    dsimp only at *
    by_cases he : e = 0
    · subst he
      obtain ⟨k1, k2, k3⟩ := hk rfl
      clear hk
      rw [if_neg (by decide)]
      by_cases h2 : need ≤ n
      · rw [if_pos h2]
        refine fnm_of_run (by kernel_rfl) Try.func61 rfl (by kernel_rfl) (by rfl) ?_
        (repeat' first | (refine s_callM [0] (g1) (h := ?_)) | (refine s_callM0 [0] (g1) (h := ?_)) | (refine p_callM [0] (g1) (h := ?_)) | (refine go_ ?_; ((repeat' first | exact True.intro | refine Two.mk ?_ ?_); all_goals intros)) | fail "")
        all_goals first
          | (exact endmA_)
          | skip
      · rw [if_neg h2]
        have h3 := get_fn t (need - 1 - n) hw
        generalize tabGet t (need - 1 - n) = q at *
        obtain ⟨⟨nm, vl⟩, e⟩ := q
        dsimp only [encField] at *
        refine fnm_of_run (by kernel_rfl) Try.func61 rfl (by kernel_rfl) (by rfl) ?_
        (repeat' first | (refine s_callM [0] (g1) (h := ?_)) | (refine s_callM0 [0] (g1) (h := ?_)) | (refine p_callM [0] (g1) (h := ?_)) | (refine s_call (h3) (h := ?_)) | (refine p_call (h3) (h := ?_)) | (refine go_ ?_; ((repeat' first | exact True.intro | refine Two.mk ?_ ?_); all_goals intros)) | fail "")
        all_goals first
          | (exact endmA_)
          | skip
    · rw [if_pos he]
      clear hk
      refine fnm_of_run (by kernel_rfl) Try.func61 rfl (by kernel_rfl) (by rfl) ?_
      (repeat' first | (refine s_callM [0] (g1) (h := ?_)) | (refine s_callM0 [0] (g1) (h := ?_)) | (refine p_callM [0] (g1) (h := ?_)) | (refine go_ ?_; ((repeat' first | exact True.intro | refine Two.mk ?_ ?_); all_goals intros)) | fail "")
      all_goals first
        | (exact endmA_)
        | skip
  rw [if_neg cB]
  by_cases cC : 64 ≤ (s.getD 0 default).toNat ∧ (s.getD 0 default).toNat < 80
  · rw [if_pos cC]
    have g1 := eyeKnown_fnm s 4 hs
    have l1 := @knF_le s 4
    generalize knF s 4 = a at *
    obtain ⟨⟨nm, vl⟩, s1, e⟩ := a
    dsimp only [encField] at *
    have g2 := textF_fnm s1 7 e (by omega)
    generalize txtF s1 7 e = a at *
    obtain ⟨v2, s2, e2⟩ := a
    dsimp only at *
    refine fnm_of_run (by kernel_rfl) Try.func61 rfl (by kernel_rfl) (by rfl) ?_
    (repeat' first | (refine s_callM [0] (g1) (h := ?_)) | (refine s_callM0 [0] (g1) (h := ?_)) | (refine p_callM [0] (g1) (h := ?_)) | (refine s_callM [0] (g2) (h := ?_)) | (refine s_callM0 [0] (g2) (h := ?_)) | (refine p_callM [0] (g2) (h := ?_)) | (refine go_ ?_; ((repeat' first | exact True.intro | refine Two.mk ?_ ?_); all_goals intros)) | fail "")
    all_goals first
      | (exact endmA_)
      | skip
  rw [if_neg cC]
  by_cases cD : 32 ≤ (s.getD 0 default).toNat ∧ (s.getD 0 default).toNat < 40
  · rw [if_pos cD]
    have g1 := textF_fnm s 3 0 hs
    have l1 := @txtF_le s 3 0
    generalize txtF s 3 0 = a at *
    obtain ⟨nm, s1, e⟩ := a
    dsimp only at *
    have g2 := textF_fnm s1 7 e (by omega)
    generalize txtF s1 7 e = a at *
    obtain ⟨v2, s2, e2⟩ := a
    dsimp only at *
    refine fnm_of_run (by kernel_rfl) Try.func61 rfl (by kernel_rfl) (by rfl) ?_
    (repeat' first | (refine s_callM [0] (g1) (h := ?_)) | (refine s_callM0 [0] (g1) (h := ?_)) | (refine p_callM [0] (g1) (h := ?_)) | (refine s_callM [0] (g2) (h := ?_)) | (refine s_callM0 [0] (g2) (h := ?_)) | (refine p_callM [0] (g2) (h := ?_)) | (refine go_ ?_; ((repeat' first | exact True.intro | refine Two.mk ?_ ?_); all_goals intros)) | fail "")
    all_goals first
      | (exact endmA_)
      | skip
  rw [if_neg cD]
  refine fnm_of_run (by kernel_rfl) Try.func61 rfl (by kernel_rfl) (by rfl) ?_
  (repeat' first | (refine go_ ?_; ((repeat' first | exact True.intro | refine Two.mk ?_ ?_); all_goals intros)) | fail "")
  all_goals first
    | (exact endmA_)
    | skip

/-- P15.2 -/
def fldsFlt (l : List DField) : Int := if 8 < l.length then 1 else if ∀ f ∈ l, fldOk f then 0 else 3
theorem fldsCheck_fn (l : List DField) (hw : ∀ y, y ∈ l → wfField y) (hl : l.length * 32 ≤ 140737488355328) : Fn Try.prog 18 [.ro (l.map encField)] (.lit (.int .i64 (fldsFlt l))) := by
  unfold fldsFlt
  by_cases c : 8 < l.length
  · rw [if_pos c]
    refine fn_of_run (by kernel_rfl) Try.func18 rfl (by kernel_rfl) ?_
    (repeat' first | (refine go_ ?_; ((repeat' first | exact True.intro | refine Two.mk ?_ ?_); all_goals intros)) | fail "")
    all_goals (exact endwA_)
  · rw [if_neg c]
    refine fn_of_run (by kernel_rfl) Try.func18 rfl (by kernel_rfl) ?_
    (repeat' first | (refine go_ ?_; ((repeat' first | exact True.intro | refine Two.mk ?_ ?_); all_goals intros)) | fail "")
    refine r_for (fun k : Nat => ⟨[(8, .ro (l.map encField)), (9, .lit (.int .i64 l.length)), (10, .lit (.int .i64 k))], [], 0, Try.f18.ntmps⟩)
      (fun k => k ≤ l.length ∧ ∀ f ∈ l.take k, fldOk f) (fun k => l.length - k) 0 ⟨Nat.zero_le _, fun f hf => by simp at hf⟩ less_to ?_
    rintro k ⟨hk, ha⟩
    by_cases hkn : k < l.length
    · have hm := getD_mem hkn
      have hx := hw _ hm
      unfold wfField at hx
      by_cases hb : fldOk (l.getD k default)
      · have hts := mem_take_snoc hkn ha hb
        clear ha
        unfold fldOk at hb
        (repeat' first | (refine go_ ?_; ((repeat' first | exact True.intro | refine Two.mk ?_ ?_); all_goals intros)) | fail "")
        all_goals (refine ⟨k + 1, ?_, ?_, ?_⟩; rotate_left 2; (exact lessA_); (focus (omega)); (focus (exact ⟨hkn, hts⟩)))
      · rw [if_neg (fun h => hb (h _ hm))]
        clear ha
        unfold fldOk at hb
        (repeat' first | (refine go_ ?_; ((repeat' first | exact True.intro | refine Two.mk ?_ ?_); all_goals intros)) | fail "")
        all_goals first
          | (exact endwA_)
          | (exfalso; omega)
    · rw [if_pos (by rw [List.take_of_length_le (by omega)] at ha; exact ha)]
      (repeat' first | (refine go_ ?_; ((repeat' first | exact True.intro | refine Two.mk ?_ ?_); all_goals intros)) | fail "")
      all_goals (exact endwA_)
theorem fldsFault_fn (l : List DField) (hw : ∀ y, y ∈ l → wfField y) (hl : l.length * 32 ≤ 140737488355328) : Fn Try.prog 20 [.ro (l.map encField)] (.lit (.int .i64 (fldsFlt l))) := by
  unfold fldsFlt
  by_cases c : 8 < l.length
  · rw [if_pos c]
    refine fn_of_run (by kernel_rfl) Try.func20 rfl (by kernel_rfl) ?_
    (repeat' first | (refine go_ ?_; ((repeat' first | exact True.intro | refine Two.mk ?_ ?_); all_goals intros)) | fail "")
    all_goals (exact endwA_)
  · rw [if_neg c]
    refine fn_of_run (by kernel_rfl) Try.func20 rfl (by kernel_rfl) ?_
    (repeat' first | (refine go_ ?_; ((repeat' first | exact True.intro | refine Two.mk ?_ ?_); all_goals intros)) | fail "")
    refine r_for (fun k : Nat => ⟨[(8, .ro (l.map encField)), (9, .lit (.int .i64 l.length)), (10, .lit (.int .i64 k))], [], 0, Try.f20.ntmps⟩)
      (fun k => k ≤ l.length ∧ ∀ f ∈ l.take k, fldOk f) (fun k => l.length - k) 0 ⟨Nat.zero_le _, fun f hf => by simp at hf⟩ less_to ?_
    rintro k ⟨hk, ha⟩
    by_cases hkn : k < l.length
    · have hm := getD_mem hkn
      have h1 := isField_fn (l.getD k default) (hw _ hm)
      by_cases hb : fldOk (l.getD k default)
      · have hts := mem_take_snoc hkn ha hb
        rw [decide_eq_true hb] at h1
        clear ha
        (repeat' first | (refine s_call (h1) (h := ?_)) | (refine p_call (h1) (h := ?_)) | (refine go_ ?_; ((repeat' first | exact True.intro | refine Two.mk ?_ ?_); all_goals intros)) | fail "")
        all_goals (refine ⟨k + 1, ?_, ?_, ?_⟩; rotate_left 2; (exact lessA_); (focus (omega)); (focus (exact ⟨hkn, hts⟩)))
      · rw [if_neg (fun h => hb (h _ hm))]
        rw [decide_eq_false hb] at h1
        clear ha
        (repeat' first | (refine s_call (h1) (h := ?_)) | (refine p_call (h1) (h := ?_)) | (refine go_ ?_; ((repeat' first | exact True.intro | refine Two.mk ?_ ?_); all_goals intros)) | fail "")
        all_goals (exact endwA_)
    · rw [if_pos (by rw [List.take_of_length_le (by omega)] at ha; exact ha)]
      (repeat' first | (refine go_ ?_; ((repeat' first | exact True.intro | refine Two.mk ?_ ?_); all_goals intros)) | fail "")
      all_goals (exact endwA_)
end Go.Proofs.Ythpophgcmgdpjaa
