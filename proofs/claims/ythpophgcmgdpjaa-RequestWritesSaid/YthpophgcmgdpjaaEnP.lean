/-
  fields.Encode: the plain part, and fields.used. No condition.
-/
import Derived.Test.YthpophgcmgdpjaaGo
import Derived.Test.YthpophgcmgdpjaaPreT
import Derived.Test.YthpophgcmgdpjaaKnF
import Derived.Test.YthpophgcmgdpjaaFldD
set_option linter.unusedVariables false
set_option linter.unusedSimpArgs false
set_option linter.unusedVariables false
namespace Go.Proofs.Ythpophgcmgdpjaa
set_option maxRecDepth 100000
attribute [local irreducible] Run RunL QStep GStep Fn Less PL FnM

/-- what is told, line by line: the table then, where each field stands in it, how much of it must be known, and the bytes -/
structure EnS where
  t : DTable
  rs : List Int
  need : Int
  tell : List UInt8
def fdS (t : DTable) (f : DField) : Option Nat := lastIx (pS f) t.Rows t.Rows.length
def enTell (ahead : Bool) (t : DTable) (f : DField) : Prop := ahead = true ∧ (fSum t.Rows : Int) + fLen f ≤ t.Room ∧ t.Put < 4611686018427387903
instance (a : Bool) (t : DTable) (f : DField) : Decidable (enTell a t f) := inferInstanceAs (Decidable (_ ∧ _ ∧ _))
noncomputable def enStep (ahead : Bool) (x : EnS) (f : DField) : EnS :=
  match knS f with
  | some _ => ⟨x.t, x.rs ++ [-1], x.need, x.tell⟩
  | none => match fdS x.t f with
    | some i => ⟨x.t, x.rs ++ [x.t.Put - x.t.Rows.length + i], max x.need (x.t.Put - x.t.Rows.length + i + 1), x.tell⟩
    | none => if enTell ahead x.t f then ⟨(tabIns x.t f).1, x.rs ++ [x.t.Put], max x.need (x.t.Put + 1), x.tell ++ (txtE 64 31 f.Name ++ txtE 0 127 f.Value)⟩ else ⟨x.t, x.rs ++ [-1], x.need, x.tell⟩
theorem enStep_k {a : Bool} {x : EnS} {f : DField} {i : Nat} (h : knS f = some i) : enStep a x f = ⟨x.t, x.rs ++ [-1], x.need, x.tell⟩ := by unfold enStep; rw [h]
theorem enStep_f {a : Bool} {x : EnS} {f : DField} {i : Nat} (h : knS f = none) (h2 : fdS x.t f = some i) : enStep a x f = ⟨x.t, x.rs ++ [x.t.Put - x.t.Rows.length + i], max x.need (x.t.Put - x.t.Rows.length + i + 1), x.tell⟩ := by unfold enStep; rw [h]; dsimp only; rw [h2]
theorem enStep_t {a : Bool} {x : EnS} {f : DField} (h : knS f = none) (h2 : fdS x.t f = none) (h3 : enTell a x.t f) : enStep a x f = ⟨(tabIns x.t f).1, x.rs ++ [x.t.Put], max x.need (x.t.Put + 1), x.tell ++ (txtE 64 31 f.Name ++ txtE 0 127 f.Value)⟩ := by unfold enStep; rw [h]; dsimp only; rw [h2]; exact if_pos h3
theorem enStep_n {a : Bool} {x : EnS} {f : DField} (h : knS f = none) (h2 : fdS x.t f = none) (h3 : ¬ enTell a x.t f) : enStep a x f = ⟨x.t, x.rs ++ [-1], x.need, x.tell⟩ := by unfold enStep; rw [h]; dsimp only; rw [h2]; exact if_neg h3
noncomputable def enAt (ahead : Bool) (t : DTable) (l : List DField) (k : Nat) : EnS := (l.take k).foldl (enStep ahead) ⟨t, [], 0, []⟩
theorem enAt_snoc {ahead : Bool} {t : DTable} {l : List DField} {k : Nat} (h : k < l.length) : enAt ahead t l (k + 1) = enStep ahead (enAt ahead t l k) (l.getD k default) := by
  unfold enAt; rw [take_snoc h, List.foldl_append]; rfl
structure EnOk (k : Nat) (x : EnS) : Prop where
  t : tabOk x.t
  rs : x.rs.length = k
  need : 0 ≤ x.need ∧ x.need ≤ x.t.Put
  all : ∀ r ∈ x.rs, -1 ≤ r ∧ r + 1 ≤ x.need
  tell : x.tell.length ≤ 300 * k
theorem lastIx_lt {p : DField → Prop} [DecidablePred p] {l : List DField} : ∀ {k j : Nat}, lastIx p l k = some j → j < k
  | 0, j, h => by cases h
  | k + 1, j, h => by
    unfold lastIx at h
    split at h
    · injection h with h; omega
    · have := lastIx_lt h; omega
theorem txtE_len (f top : Nat) (s : List UInt8) (hs : s.length ≤ 120) : (txtE f top s).length ≤ 130 := by
  have := preE_len f top s.length (by omega)
  unfold txtE
  rw [List.length_append]; omega
theorem ins_told {t : DTable} {f : DField} (ht : tabOk t) (hf : fldOk f) {a : Bool} (h : enTell a t f) : ∃ t2, tabIns t f = (t2, 0) ∧ tabOk t2 ∧ t2.Put = t.Put + 1 := by
  obtain ⟨_, h2, h3⟩ := h
  have he : tInsE t f = 0 := by
    unfold tInsE
    rw [if_neg (fun h => h hf), if_neg (by omega), if_neg (by omega)]
  have e : tabIns t f = (⟨t.Room, t.Put + 1, fitL t.Room (t.Rows ++ [f])⟩, 0) := by
    unfold tabIns
    rw [tabFlt_t ht, if_neg (by omega), if_neg (by omega)]
  exact ⟨_, e, tabOk_ins ht he, rfl⟩
theorem enOk_step {k : Nat} {x : EnS} {f : DField} {a : Bool} (h : EnOk k x) (hf : fldOk f) : EnOk (k + 1) (enStep a x f) := by
  obtain ⟨h1, h2, h3, h4, h5⟩ := h
  have keep : EnOk (k + 1) ⟨x.t, x.rs ++ [-1], x.need, x.tell⟩ := ⟨h1, by simp [h2], h3, fun r hr => by
    rcases List.mem_append.1 hr with hr | hr
    · exact h4 r hr
    · rw [List.mem_singleton.1 hr]; dsimp only; omega, by dsimp only; omega⟩
  cases hk : knS f with
  | some i => rw [enStep_k hk]; exact keep
  | none =>
    cases hd : fdS x.t f with
    | some i =>
      rw [enStep_f hk hd]
      have hi := lastIx_lt hd
      have hp := h1.1.2.2.1
      refine ⟨h1, by simp [h2], by dsimp only; omega, fun r hr => ?_, by dsimp only; omega⟩
      rcases List.mem_append.1 hr with hr | hr
      · have := h4 r hr
        dsimp only; omega
      · rw [List.mem_singleton.1 hr]; dsimp only; omega
    | none =>
      by_cases ht : enTell a x.t f
      · rw [enStep_t hk hd ht]
        obtain ⟨t2, e, g1, g2⟩ := ins_told h1 hf ht
        have hp := h1.1
        have l1 := txtE_len 64 31 f.Name (by have := hf.2.1; omega)
        have l2 := txtE_len 0 127 f.Value (by have := hf.2.2; omega)
        rw [e]
        refine ⟨g1, by simp [h2], by dsimp only; omega, fun r hr => ?_, by dsimp only; rw [List.length_append, List.length_append]; omega⟩
        rcases List.mem_append.1 hr with hr | hr
        · have := h4 r hr
          dsimp only; omega
        · rw [List.mem_singleton.1 hr]; dsimp only; omega
      · rw [enStep_n hk hd ht]; exact keep
theorem enAt_ok {a : Bool} {t : DTable} {l : List DField} (ht : tabOk t) (hl : ∀ f ∈ l, fldOk f) : ∀ k, k ≤ l.length → EnOk k (enAt a t l k)
  | 0, _ => ⟨ht, rfl, by unfold enAt; dsimp only [List.take_zero, List.foldl_nil]; have := ht.1; omega, fun r hr => (by cases hr), Nat.zero_le _⟩
  | k + 1, hk => by
    rw [enAt_snoc (by omega)]
    exact enOk_step (enAt_ok ht hl k (by omega)) (hl _ (getD_mem (by omega)))
/-- a line's bytes -/
def enLine (need : Int) (f : DField) (r : Int) : List UInt8 :=
  match knS f with
  | some i => preE 192 63 i
  | none => if 0 ≤ r then preE 128 63 (need - 1 - r).toNat else match knN f with
    | some j => preE 64 15 j ++ txtE 0 127 f.Value
    | none => txtE 32 7 f.Name ++ txtE 0 127 f.Value
theorem enLine_k {need : Int} {f : DField} {r : Int} {i : Nat} (h : knS f = some i) : enLine need f r = preE 192 63 i := by unfold enLine; rw [h]
theorem enLine_r {need : Int} {f : DField} {r : Int} (h : knS f = none) (hr : 0 ≤ r) : enLine need f r = preE 128 63 (need - 1 - r).toNat := by unfold enLine; rw [h]; exact if_pos hr
theorem enLine_n {need : Int} {f : DField} {r : Int} {j : Nat} (h : knS f = none) (hr : ¬ 0 ≤ r) (hn : knN f = some j) : enLine need f r = preE 64 15 j ++ txtE 0 127 f.Value := by unfold enLine; rw [h]; dsimp only; rw [if_neg hr, hn]
theorem enLine_0 {need : Int} {f : DField} {r : Int} (h : knS f = none) (hr : ¬ 0 ≤ r) (hn : knN f = none) : enLine need f r = txtE 32 7 f.Name ++ txtE 0 127 f.Value := by unfold enLine; rw [h]; dsimp only; rw [if_neg hr, hn]
def enOut (l : List DField) (rs : List Int) (need : Int) : Nat → List UInt8
  | 0 => preE 0 255 need.toNat
  | k + 1 => enOut l rs need k ++ enLine need (l.getD k default) (rs.getD k default)
theorem enLine_len {need : Int} {f : DField} {r : Int} (hf : fldOk f) (h1 : -1 ≤ r ∧ r + 1 ≤ need) (h2 : need ≤ 4611686018427387903) : (enLine need f r).length ≤ 260 := by
  have l2 := txtE_len 0 127 f.Value (by have := hf.2.2; omega)
  have l1 := txtE_len 32 7 f.Name (by have := hf.2.1; omega)
  cases h : knS f with
  | some i =>
    rw [enLine_k h]
    have := firstIx_lt h
    have := preE_len 192 63 i (by rw [knownL_len] at this; omega)
    omega
  | none =>
    by_cases hr : 0 ≤ r
    · rw [enLine_r h hr]
      have := preE_len 128 63 (need - 1 - r).toNat (by omega)
      omega
    · cases hn : knN f with
      | some j =>
        rw [enLine_n h hr hn, List.length_append]
        have := firstIx_lt hn
        have := preE_len 64 15 j (by rw [knownL_len] at this; omega)
        omega
      | none =>
        rw [enLine_0 h hr hn, List.length_append]
        omega
theorem enOut_len {l : List DField} {rs : List Int} {need : Int} (hf : ∀ f ∈ l, fldOk f) (h1 : ∀ r ∈ rs, -1 ≤ r ∧ r + 1 ≤ need) (h0 : 0 ≤ need) (h2 : need ≤ 4611686018427387903) (hl : rs.length = l.length) : ∀ k, k ≤ l.length → (enOut l rs need k).length ≤ 10 + 260 * k
  | 0, _ => by have := preE_len 0 255 need.toNat (by omega); simp only [enOut]; omega
  | k + 1, hk => by
    have h3 := enOut_len hf h1 h0 h2 hl k (by omega)
    have h4 := enLine_len (hf _ (getD_mem (show k < l.length by omega))) (h1 _ (getD_mem (show k < rs.length by omega))) h2
    simp only [enOut]
    rw [List.length_append]; omega
/-- P15.3 -/
noncomputable def enR (t : DTable) (l : List DField) (ahead : Bool) : DTable × List UInt8 × List UInt8 × Int :=
  if tabFlt t ≠ 0 then (tabZero, [], [], tabFlt t) else if fldsFlt l ≠ 0 then (tabZero, [], [], fldsFlt l) else
  ((enAt ahead t l l.length).t, (enAt ahead t l l.length).tell, enOut l (enAt ahead t l l.length).rs (enAt ahead t l l.length).need l.length, 0)
theorem find_no {t : DTable} {f : DField} (h0 : tabFlt t = 0) (h : fdS t f = none) : ∃ n e, tabFind t f = (n, false, e) ∧ (e = 0 ∨ e = 5) := by
  cases eN : lastIx (pN f) t.Rows t.Rows.length with
  | some i => exact ⟨_, _, find_n h0 h eN, .inl rfl⟩
  | none => exact ⟨_, _, find_0 h0 h eN, .inr rfl⟩
theorem fldsFlt_ok {l : List DField} (h : fldsFlt l = 0) : l.length ≤ 8 ∧ ∀ f ∈ l, fldOk f := by
  unfold fldsFlt at h
  split at h
  · cases h
  · split at h
    · exact ⟨by omega, by assumption⟩
    · cases h

/-! ### rows of numbers -/
theorem set_int (m : List Int) (i : Nat) (hi : i < m.length) (v : Int) : (m.map encI).set i (setAt 0 [.lit (.int .i64 v)] (eAt (m.map encI) i)) = (m.set i v).map encI := by
  have e : eAt (m.map encI) i = encI (m.getD i default) := by
    unfold eAt
    rw [List.getD_eq_getElem?_getD, List.getD_eq_getElem?_getD, List.getElem?_map, List.getElem?_eq_getElem hi]
    rfl
  rw [e, List.map_set]
  rfl
def padR (rs : List Int) (n : Nat) : List Int := rs ++ List.replicate (n - rs.length) 0
theorem padR_len {rs : List Int} {n : Nat} (h : rs.length ≤ n) : (padR rs n).length = n := by unfold padR; rw [List.length_append, List.length_replicate]; omega
theorem padR_all {rs : List Int} {n : Nat} (h : rs.length = n) : padR rs n = rs := by unfold padR; rw [h, Nat.sub_self]; simp
theorem padR_nil (n : Nat) : padR [] n = List.replicate n 0 := by unfold padR; simp
theorem padR_set {rs : List Int} {n : Nat} (h : rs.length < n) (v : Int) : (padR rs n).set rs.length v = padR (rs ++ [v]) n := by
  unfold padR
  rw [List.set_append_right _ _ (Nat.le_refl _), Nat.sub_self, show n - rs.length = (n - (rs.length + 1)) + 1 by omega, List.replicate_succ, List.set_cons_zero, List.length_append, List.length_singleton, List.append_assoc]
  rfl
theorem padR_set2 {rs : List Int} {n : Nat} (u v : Int) : (padR (rs ++ [u]) n).set rs.length v = padR (rs ++ [v]) n := by
  unfold padR
  rw [List.append_assoc, List.set_append_right _ _ (Nat.le_refl _), Nat.sub_self, List.singleton_append, List.set_cons_zero, List.length_append, List.length_append, List.append_assoc]
  rfl
theorem padR_get {rs : List Int} {n : Nat} (v : Int) : (padR (rs ++ [v]) n).getD rs.length default = v := by
  unfold padR
  rw [List.append_assoc, List.getD_eq_getElem?_getD, List.getElem?_append_right (Nat.le_refl _), Nat.sub_self]
  rfl
theorem used_fn (t : DTable) (hw : wfTable t) : Fn Try.prog 68 [.agg (encTable t)] (.lit (.int .i64 (wSum t.Rows t.Rows.length))) := by
  have hl := hw.2.2.1
  have hf := hw.2.2.2
  clear hw
  refine fn_of_run (by kernel_rfl) Try.func68 rfl (by kernel_rfl) ?_
  (repeat' first | (refine go_ ?_; ((repeat' first | exact True.intro | refine Two.mk ?_ ?_); all_goals intros)) | fail "")
  refine r_for (fun k : Nat => ⟨[(7, .ro (t.Rows.map encField)), (8, .lit (.int .i64 t.Rows.length)), (9, .lit (.int .i64 k)), (3, .lit (.int .i64 (wSum t.Rows k)))], [], 1, Try.f68.ntmps⟩)
    (fun k => k ≤ t.Rows.length) (fun k => t.Rows.length - k) 0 (Nat.zero_le _) less_to ?_
  intro k hk
  by_cases hkn : k < t.Rows.length
  · have hwk := hf _ (getD_mem hkn)
    have e := wSum_snoc hkn
    unfold wStep at e
    (repeat' first | (refine s_call (size_fn _ hwk) (h := ?_)) | (refine p_call (size_fn _ hwk) (h := ?_)) | (refine go_ ?_; ((repeat' first | exact True.intro | refine Two.mk ?_ ?_); all_goals intros)) | fail "")
    all_goals (refine ⟨k + 1, ?_, ?_, ?_⟩; rotate_left 2; (exact lessA_); (focus (omega)); (focus (exact hkn)))
  · have hkl : k = t.Rows.length := by omega
    subst hkl
    (repeat' first | (refine go_ ?_; ((repeat' first | exact True.intro | refine Two.mk ?_ ?_); all_goals intros)) | fail "")
    all_goals exact ends_ (hr := rfl)
end Go.Proofs.Ythpophgcmgdpjaa
