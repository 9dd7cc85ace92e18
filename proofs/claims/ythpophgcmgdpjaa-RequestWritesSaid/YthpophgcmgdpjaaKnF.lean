/-
  The place of a field among those that all know: fields.known, and the reference's knownPlace. No condition.
-/
import Derived.Test.YthpophgcmgdpjaaGo
import Derived.Test.YthpophgcmgdpjaaKnownF
import Derived.Test.YthpophgcmgdpjaaTabG
set_option linter.unusedVariables false
set_option linter.unusedSimpArgs false
set_option linter.unusedVariables false
namespace Go.Proofs.Ythpophgcmgdpjaa
set_option maxRecDepth 100000
attribute [local irreducible] Run RunL QStep GStep Fn Less PL FnM

/-- the first place at which something holds -/
def firstIx (p : DField → Prop) [DecidablePred p] (l : List DField) : Nat → Option Nat
  | 0 => none
  | k + 1 => match firstIx p l k with
    | some j => some j
    | none => if p (l.getD k default) then some k else none
theorem firstIx_k {p : DField → Prop} [DecidablePred p] {l : List DField} {k j : Nat} (h : firstIx p l k = some j) : firstIx p l (k + 1) = some j := by simp only [firstIx, h]
theorem firstIx_t {p : DField → Prop} [DecidablePred p] {l : List DField} {k : Nat} (h0 : firstIx p l k = none) (h : p (l.getD k default)) : firstIx p l (k + 1) = some k := by simp only [firstIx, h0]; exact if_pos h
theorem firstIx_f {p : DField → Prop} [DecidablePred p] {l : List DField} {k : Nat} (h0 : firstIx p l k = none) (h : ¬ p (l.getD k default)) : firstIx p l (k + 1) = none := by simp only [firstIx, h0]; exact if_neg h
theorem firstIx_mono {p : DField → Prop} [DecidablePred p] {l : List DField} {k j : Nat} (h : firstIx p l k = some j) : ∀ m, k ≤ m → firstIx p l m = some j
  | 0, hm => by rw [show k = 0 by omega] at h; exact h
  | m + 1, hm => by
    rcases Nat.lt_or_ge m k with h1 | h1
    · rw [show m + 1 = k by omega]; exact h
    · exact firstIx_k (firstIx_mono h m h1)
theorem firstIx_lt {p : DField → Prop} [DecidablePred p] {l : List DField} : ∀ {k j : Nat}, firstIx p l k = some j → j < k
  | 0, j, h => by cases h
  | k + 1, j, h => by
    simp only [firstIx] at h
    cases e : firstIx p l k with
    | some i => rw [e] at h; injection h with h; have := firstIx_lt e; omega
    | none =>
      rw [e] at h
      dsimp only at h
      split at h
      · injection h with h; omega
      · cases h
theorem knownL_len' : knownL.length = 11 := rfl
/-- where a known field is as the one at hand; where its name is -/
def knS (f : DField) : Option Nat := firstIx (pS f) knownL knownL.length
def knN (f : DField) : Option Nat := firstIx (pN f) knownL knownL.length
def atN : Option Nat → Nat
  | some j => j
  | none => 0
def knR (f : DField) : Nat × Bool × Bool := match knS f with
  | some i => (i, true, true)
  | none => (atN (knN f), false, (knN f).isSome)
theorem knR_s {f : DField} {i : Nat} (h : knS f = some i) : knR f = (i, true, true) := by unfold knR; rw [h]
theorem knR_n {f : DField} (h : knS f = none) : knR f = (atN (knN f), false, (knN f).isSome) := by unfold knR; rw [h]
def encKn (r : Nat × Bool × Bool) : V := .tup [.lit (.int .i64 r.1), .lit (.bool r.2.1), .lit (.bool r.2.2)]
set_option maxHeartbeats 4000000 in
theorem knownF_fn (f : DField) : Fn Try.prog 66 [.agg (encField f)] (encKn (knR f)) := by
  have h1 := known_fn
  have hK := knownL_len'
  have eS : ∀ i, firstIx (pS f) knownL knownL.length = some i → knR f = (i, true, true) := fun i h => knR_s h
  have eN : firstIx (pS f) knownL knownL.length = none → knR f = (atN (firstIx (pN f) knownL knownL.length), false, (firstIx (pN f) knownL knownL.length).isSome) := fun h => knR_n h
  generalize knownL = K at *
  generalize knR f = R at *
  refine fn_of_run (by kernel_rfl) Try.func66 rfl (by kernel_rfl) ?_
  (repeat' first | (refine s_call (h1) (h := ?_)) | (refine p_call (h1) (h := ?_)) | (refine go_ ?_; ((repeat' first | exact True.intro | refine Two.mk ?_ ?_); all_goals intros)) | fail "")
  refine r_for (fun x : Nat × Option Nat => ⟨[(1, .ptr 0 0 0 0), (5, .lit (.int .i64 (atN x.2))), (6, .lit (.bool x.2.isSome)), (9, .ro (K.map encField)), (10, .lit (.int .i64 K.length)), (11, .lit (.int .i64 x.1))], [(0, some (.box 113 (encField f)))], 1, Try.f66.ntmps⟩)
    (fun x => x.1 ≤ K.length ∧ firstIx (pS f) K x.1 = none ∧ x.2 = firstIx (pN f) K x.1) (fun x => K.length - x.1) (0, none) ⟨Nat.zero_le _, rfl, rfl⟩ less_to ?_
  clear h1
  rintro ⟨k, o⟩ ⟨hk, hS, hN⟩
  dsimp only at hk hS hN ⊢
  by_cases hkn : k < K.length
  · clear eN
    by_cases cS : pS f (K.getD k default)
    · rw [eS k (firstIx_mono (firstIx_t hS cS) _ (by omega))]
      unfold encKn
      clear eS hS hN
      cases o
      all_goals (repeat' first | (refine go_ ?_; ((repeat' first | exact True.intro | refine Two.mk ?_ ?_); all_goals intros)) | fail "")
      all_goals first
        | (exact endwA_)
        | exact absurd (pS_iff.1 cS) (by assumption)
        | skip
    · clear eS
      have hS2 := firstIx_f hS cS
      cases o with
      | some j =>
        have hN2 : some j = firstIx (pN f) K (k + 1) := (firstIx_k hN.symm).symm
        clear hN hS
        (repeat' first | (refine go_ ?_; ((repeat' first | exact True.intro | refine Two.mk ?_ ?_); all_goals intros)) | fail "")
        all_goals first
          | (refine ⟨(k + 1, some j), ?_, ?_, ?_⟩; rotate_left 2; (exact lessA_); (focus (dsimp only; omega)); (focus (exact ⟨hkn, hS2, hN2⟩)))
          | exact absurd (pS_iff.2 (by assumption)) cS
          | skip
      | none =>
        by_cases cN : pN f (K.getD k default)
        · have hN2 : some k = firstIx (pN f) K (k + 1) := (firstIx_t hN.symm cN).symm
          clear hN hS
          unfold pN at cN
          (repeat' first | (refine go_ ?_; ((repeat' first | exact True.intro | refine Two.mk ?_ ?_); all_goals intros)) | fail "")
          all_goals first
            | (refine ⟨(k + 1, some k), ?_, ?_, ?_⟩; rotate_left 2; (exact lessA_); (focus (dsimp only; omega)); (focus (exact ⟨hkn, hS2, hN2⟩)))
            | exact absurd (pS_iff.2 (by assumption)) cS
            | exact absurd cN (by assumption)
            | skip
        · have hN2 : none = firstIx (pN f) K (k + 1) := (firstIx_f hN.symm cN).symm
          clear hN hS
          unfold pN at cN
          (repeat' first | (refine go_ ?_; ((repeat' first | exact True.intro | refine Two.mk ?_ ?_); all_goals intros)) | fail "")
          all_goals first
            | (refine ⟨(k + 1, (none : Option Nat)), ?_, ?_, ?_⟩; rotate_left 2; (exact lessA_); (focus (dsimp only; omega)); (focus (exact ⟨hkn, hS2, hN2⟩)))
            | exact absurd (pS_iff.2 (by assumption)) cS
            | exact absurd (by assumption) cN
            | skip
  · have hkl : k = K.length := by omega
    subst hkl
    rw [eN hS, ← hN]
    unfold encKn
    clear eS eN hS hN
    cases o
    all_goals (repeat' first | (refine go_ ?_; ((repeat' first | exact True.intro | refine Two.mk ?_ ?_); all_goals intros)) | fail "")
    all_goals first
      | (exact endwA_)
      | skip
def plI : Option Nat → Int
  | some j => j
  | none => -1
theorem plI_s {j : Nat} : plI (some j) = j := rfl
theorem plI_n : plI none = -1 := rfl
set_option maxHeartbeats 4000000 in
theorem placeS_fn (f : DField) : Fn Try.prog 74 [.agg (encField f), .lit (.bool true)] (.lit (.int .i64 (plI (knS f)))) := by
  have h1 := knownRef_fn
  have hK := knownL_len'
  unfold knS
  generalize knownL = K at *
  refine fn_of_run (by kernel_rfl) Try.func74 rfl (by kernel_rfl) ?_
  (repeat' first | (refine s_call (h1) (h := ?_)) | (refine p_call (h1) (h := ?_)) | (refine go_ ?_; ((repeat' first | exact True.intro | refine Two.mk ?_ ?_); all_goals intros)) | fail "")
  refine r_for (fun k : Nat => ⟨[(1, .lit (.bool true)), (2, .ptr 0 0 0 0), (7, .ro (K.map encField)), (8, .lit (.int .i64 K.length)), (9, .lit (.int .i64 k))], [(0, some (.box 113 (encField f)))], 1, Try.f74.ntmps⟩)
    (fun k => k ≤ K.length ∧ firstIx (pS f) K k = none) (fun k => K.length - k) 0 ⟨Nat.zero_le _, rfl⟩ less_to ?_
  clear h1
  rintro k ⟨hk, hS⟩
  by_cases hkn : k < K.length
  · by_cases cS : pS f (K.getD k default)
    · rw [firstIx_mono (firstIx_t hS cS) K.length (by omega), plI_s]
      clear hS
      (repeat' first | (refine go_ ?_; ((repeat' first | exact True.intro | refine Two.mk ?_ ?_); all_goals intros)) | fail "")
      all_goals first
        | (exact endwA_)
        | exact absurd (pS_iff.1 cS) (by assumption)
        | skip
    · have hS2 := firstIx_f hS cS
      clear hS
      (repeat' first | (refine go_ ?_; ((repeat' first | exact True.intro | refine Two.mk ?_ ?_); all_goals intros)) | fail "")
      all_goals first
        | (refine ⟨k + 1, ?_, ?_, ?_⟩; rotate_left 2; (exact lessA_); (focus (omega)); (focus (exact ⟨hkn, hS2⟩)))
        | exact absurd (pS_iff.2 (by assumption)) cS
        | skip
  · have hkl : k = K.length := by omega
    subst hkl
    rw [hS, plI_n]
    (repeat' first | (refine go_ ?_; ((repeat' first | exact True.intro | refine Two.mk ?_ ?_); all_goals intros)) | fail "")
    all_goals first
      | (exact endwA_)
      | skip
set_option maxHeartbeats 4000000 in
theorem placeN_fn (f : DField) : Fn Try.prog 74 [.agg (encField f), .lit (.bool false)] (.lit (.int .i64 (plI (knN f)))) := by
  have h1 := knownRef_fn
  have hK := knownL_len'
  unfold knN
  generalize knownL = K at *
  refine fn_of_run (by kernel_rfl) Try.func74 rfl (by kernel_rfl) ?_
  (repeat' first | (refine s_call (h1) (h := ?_)) | (refine p_call (h1) (h := ?_)) | (refine go_ ?_; ((repeat' first | exact True.intro | refine Two.mk ?_ ?_); all_goals intros)) | fail "")
  refine r_for (fun k : Nat => ⟨[(1, .lit (.bool false)), (2, .ptr 0 0 0 0), (7, .ro (K.map encField)), (8, .lit (.int .i64 K.length)), (9, .lit (.int .i64 k))], [(0, some (.box 113 (encField f)))], 1, Try.f74.ntmps⟩)
    (fun k => k ≤ K.length ∧ firstIx (pN f) K k = none) (fun k => K.length - k) 0 ⟨Nat.zero_le _, rfl⟩ less_to ?_
  clear h1
  rintro k ⟨hk, hS⟩
  by_cases hkn : k < K.length
  · by_cases cS : pN f (K.getD k default)
    · rw [firstIx_mono (firstIx_t hS cS) K.length (by omega), plI_s]
      clear hS
      unfold pN at cS
      (repeat' first | (refine go_ ?_; ((repeat' first | exact True.intro | refine Two.mk ?_ ?_); all_goals intros)) | fail "")
      all_goals first
        | (exact endwA_)
        | exact absurd cS (by assumption)
        | skip
    · have hS2 := firstIx_f hS cS
      clear hS
      unfold pN at cS
      (repeat' first | (refine go_ ?_; ((repeat' first | exact True.intro | refine Two.mk ?_ ?_); all_goals intros)) | fail "")
      all_goals first
        | (refine ⟨k + 1, ?_, ?_, ?_⟩; rotate_left 2; (exact lessA_); (focus (omega)); (focus (exact ⟨hkn, hS2⟩)))
        | exact absurd (by assumption) cS
        | (exfalso; have h := ‹strB (K.getD k default).Name = strB f.Name ∧ strB (K.getD k default).Value = strB f.Value ∧ True›; exact cS (strB_inj.1 h.1))
        | skip
  · have hkl : k = K.length := by omega
    subst hkl
    rw [hS, plI_n]
    (repeat' first | (refine go_ ?_; ((repeat' first | exact True.intro | refine Two.mk ?_ ?_); all_goals intros)) | fail "")
    all_goals first
      | (exact endwA_)
      | skip
end Go.Proofs.Ythpophgcmgdpjaa
