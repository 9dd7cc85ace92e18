/-
  Requests: the plain part of their fields' check. No condition.
-/
import Derived.Test.YthpophgcmgdpjaaGo
import Derived.Test.YthpophgcmgdpjaaFldD
set_option linter.unusedVariables false
set_option linter.unusedSimpArgs false
set_option linter.unusedVariables false
namespace Go.Proofs.Ythpophgcmgdpjaa
set_option maxRecDepth 100000
attribute [local irreducible] Run RunL QStep GStep Fn Less PL FnM

/-! ### counting names -/
def inc (n : List UInt8) : List (List UInt8 × Nat) → List (List UInt8 × Nat)
  | [] => [(n, 1)]
  | p :: r => if n = p.1 then (p.1, p.2 + 1) :: r else p :: inc n r
def acnt (n : List UInt8) : List (List UInt8 × Nat) → Nat
  | [] => 0
  | p :: r => if n = p.1 then p.2 else acnt n r
def encP (p : List UInt8 × Nat) : Value × Value := (.string (strB p.1), .int .i64 (p.2 : Int))
def encM (a : List (List UInt8 × Nat)) : List (Value × Value) := a.map encP
theorem kEq_str (n m : List UInt8) : kEq (.string (strB n)) (.string (strB m)) = decide (n = m) := by
  simp only [kEq]
  by_cases h : n = m
  · rw [h, decide_eq_true rfl]; exact (MapKept.bytes_beq _ _).2 rfl
  · rw [decide_eq_false h]
    cases hb : (strB n == strB m) with
    | false => rfl
    | true => exact absurd (strB_inj.1 ((MapKept.bytes_beq _ _).1 hb)) h
theorem look_m (n : List UInt8) : ∀ a, (mlook (.string (strB n)) (encM a)).getD (.int .i64 0) = .int .i64 (acnt n a : Int)
  | [] => rfl
  | p :: r => by
    have ih := look_m n r
    simp only [encM, List.map_cons, mlook, encP, kEq_str, acnt]
    by_cases h : n = p.1
    · rw [if_pos h, decide_eq_true h]; rfl
    · rw [if_neg h, decide_eq_false h]; exact ih
theorem put_m (n : List UInt8) : ∀ a, mput (.string (strB n)) (.int .i64 ((acnt n a : Int) + 1)) (encM a) = encM (inc n a)
  | [] => rfl
  | p :: r => by
    have ih := put_m n r
    simp only [encM, List.map_cons, mput, encP, kEq_str, acnt, inc]
    by_cases h : n = p.1
    · rw [if_pos h, if_pos h, decide_eq_true h, h]
      rfl
    · rw [if_neg h, if_neg h, decide_eq_false h]
      show _ :: mput _ _ (encM r) = _
      rw [ih]
      rfl
def amOf (ns : List (List UInt8)) : List (List UInt8 × Nat) := ns.foldl (fun a n => inc n a) []
theorem amOf_snoc (ns : List (List UInt8)) (n : List UInt8) : amOf (ns ++ [n]) = inc n (amOf ns) := by unfold amOf; rw [List.foldl_append]; rfl
theorem acnt_inc (n m : List UInt8) : ∀ a, acnt m (inc n a) = acnt m a + if m = n then 1 else 0
  | [] => by simp only [inc, acnt, Nat.zero_add]
  | p :: r => by
    have ih := acnt_inc n m r
    by_cases h : n = p.1
    · simp only [inc, if_pos h, acnt]
      by_cases hm : m = p.1
      · rw [if_pos hm, if_pos hm, if_pos (hm.trans h.symm)]
      · rw [if_neg hm, if_neg hm, if_neg (fun e => hm (e.trans h))]; omega
    · simp only [inc, if_neg h, acnt]
      by_cases hm : m = p.1
      · rw [if_pos hm, if_pos hm, if_neg (fun e => h (e.symm.trans hm))]; omega
      · rw [if_neg hm, if_neg hm]; exact ih
/-- each name has one row at most, its number above nought -/
structure AmOk (a : List (List UInt8 × Nat)) : Prop where
  nd : (a.map (·.1)).Nodup
  one : ∀ p ∈ a, 1 ≤ p.2
theorem inc_keys (n : List UInt8) : ∀ a, (inc n a).map (·.1) = if n ∈ a.map (·.1) then a.map (·.1) else a.map (·.1) ++ [n]
  | [] => by simp [inc]
  | p :: r => by
    have ih := inc_keys n r
    by_cases h : n = p.1
    · simp [inc, h]
    · simp only [inc, if_neg h, List.map_cons, ih, List.mem_cons]
      by_cases hm : n ∈ r.map (·.1)
      · rw [if_pos hm, if_pos (.inr hm)]
      · rw [if_neg hm, if_neg (fun e => e.elim h hm)]; rfl
theorem inc_one (n : List UInt8) : ∀ {a}, (∀ p ∈ a, 1 ≤ p.2) → ∀ p ∈ inc n a, 1 ≤ p.2
  | [], _, p, h => by simp only [inc, List.mem_singleton] at h; rw [h]; exact Nat.le_refl _
  | q :: r, hq, p, h => by
    simp only [inc] at h
    split at h
    · rcases List.mem_cons.1 h with h | h
      · rw [h]; exact Nat.succ_le_succ (Nat.zero_le _)
      · exact hq p (List.mem_cons_of_mem _ h)
    · rcases List.mem_cons.1 h with h | h
      · rw [h]; exact hq q List.mem_cons_self
      · exact inc_one n (fun p hp => hq p (List.mem_cons_of_mem _ hp)) p h
theorem inc_ok {n : List UInt8} {a : List (List UInt8 × Nat)} (h : AmOk a) : AmOk (inc n a) := by
  refine ⟨?_, inc_one n h.one⟩
  rw [inc_keys]
  by_cases hm : n ∈ a.map (·.1)
  · rw [if_pos hm]; exact h.nd
  · rw [if_neg hm, List.nodup_append]
    refine ⟨h.nd, by simp, fun x hx y hy => ?_⟩
    rw [List.mem_singleton.1 hy]
    exact fun e => hm (e ▸ hx)
theorem acnt_mem {n : List UInt8} {c : Nat} : ∀ {a : List (List UInt8 × Nat)}, (a.map (·.1)).Nodup → (n, c) ∈ a → acnt n a = c
  | [], _, h => by cases h
  | q :: r, hn, h => by
    simp only [List.map_cons, List.nodup_cons] at hn
    simp only [acnt]
    rcases List.mem_cons.1 h with h | h
    · rw [← h, if_pos rfl]
    · rw [if_neg (fun e => hn.1 (by rw [← e]; exact List.mem_map.2 ⟨_, h, rfl⟩))]
      exact acnt_mem hn.2 h
theorem acnt_has {n : List UInt8} : ∀ {a : List (List UInt8 × Nat)}, 1 ≤ acnt n a → (n, acnt n a) ∈ a
  | [], h => by simp [acnt] at h
  | q :: r, h => by
    simp only [acnt] at h ⊢
    by_cases hq : n = q.1
    · rw [if_pos hq, hq]; exact List.mem_cons_self
    · rw [if_neg hq] at h ⊢; exact List.mem_cons_of_mem _ (acnt_has h)
theorem amOf_ok (ns : List (List UInt8)) : AmOk (amOf ns) := by
  have : ∀ (ns : List (List UInt8)) (a : List (List UInt8 × Nat)), AmOk a → AmOk (ns.foldl (fun a n => inc n a) a) := by
    intro ns
    induction ns with
    | nil => exact fun a h => h
    | cons n ns ih => exact fun a h => ih _ (inc_ok h)
  exact this ns [] ⟨List.nodup_nil, fun p hp => (by cases hp)⟩
theorem acnt_fold (m : List UInt8) : ∀ (ns : List (List UInt8)) (a : List (List UInt8 × Nat)), acnt m (ns.foldl (fun a n => inc n a) a) = acnt m a + ns.count m
  | [], a => rfl
  | n :: ns, a => by
    rw [List.foldl_cons, acnt_fold m ns, acnt_inc, List.count_cons]
    by_cases h : m = n
    · rw [if_pos h, h, if_pos (beq_self_eq_true _)]; omega
    · rw [if_neg h, if_neg (fun e => h (eq_of_beq e).symm)]; omega
theorem acnt_am (m : List UInt8) (ns : List (List UInt8)) : acnt m (amOf ns) = ns.count m := by
  unfold amOf; rw [acnt_fold]; exact Nat.zero_add _
/-! ### the check -/
def chOk (c : UInt8) : Prop := 33 ≤ c.toNat ∧ c.toNat ≤ 126 ∧ ¬ (65 ≤ c.toNat ∧ c.toNat ≤ 90)
instance (c : UInt8) : Decidable (chOk c) := inferInstanceAs (Decidable (_ ∧ _ ∧ _))
def isPs (f : DField) : Prop := (f.Name.getD 0 default).toNat = 58
instance (f : DField) : Decidable (isPs f) := inferInstanceAs (Decidable (_ = _))
def psN : List DField → List (List UInt8)
  | [] => []
  | f :: l => if isPs f then f.Name :: psN l else psN l
theorem psN_app : ∀ (l m : List DField), psN (l ++ m) = psN l ++ psN m
  | [], m => rfl
  | f :: l, m => by
    simp only [List.cons_append, psN, psN_app l m]
    split <;> rfl
theorem psN_t {l : List DField} {k : Nat} (hk : k < l.length) (h : isPs (l.getD k default)) : psN (l.take (k + 1)) = psN (l.take k) ++ [(l.getD k default).Name] := by
  rw [take_snoc hk, psN_app]; simp only [psN, if_pos h]
theorem psN_f {l : List DField} {k : Nat} (hk : k < l.length) (h : ¬ isPs (l.getD k default)) : psN (l.take (k + 1)) = psN (l.take k) := by
  rw [take_snoc hk, psN_app]; simp only [psN, if_neg h, List.append_nil]
theorem psN_len : ∀ l : List DField, (psN l).length ≤ l.length
  | [] => Nat.le_refl _
  | f :: l => by
    have := psN_len l
    simp only [psN, List.length_cons]
    split
    · simp only [List.length_cons]; omega
    · omega
theorem psN_count (l : List DField) (n : List UInt8) (k : Nat) : (psN (l.take k)).count n ≤ (psN l).count n := by
  have e : l = l.take k ++ l.drop k := (List.take_append_drop k l).symm
  conv => rhs; rw [e]
  rw [psN_app, List.count_append]; omega
def nM : List UInt8 := [58, 109, 101, 116, 104, 111, 100]
def nP : List UInt8 := [58, 112, 97, 116, 104]
def nA : List UInt8 := [58, 97, 117, 116, 104, 111, 114, 105, 116, 121]
def allowed (n : List UInt8) : Prop := n = nM ∨ n = nP ∨ n = nA
def plainIn (l : List DField) (k : Nat) : Prop := ∃ j, j < k ∧ ¬ isPs (l.getD j default)
structure ReqOk (l : List DField) : Prop where
  ch : ∀ f ∈ l, ∀ c ∈ f.Name, chOk c
  seq : ∀ k, k < l.length → isPs (l.getD k default) → ¬ plainIn l k
  good : ∀ n ∈ psN l, allowed n ∧ (psN l).count n ≤ 1
  m : nM ∈ psN l
  p : nP ∈ psN l
open Classical in
/-- P16.1 -/
noncomputable def reqFlt (l : List DField) : Int := if fldsFlt l ≠ 0 then fldsFlt l else if ReqOk l then 0 else 3
theorem reqFlt_e {l : List DField} (h : fldsFlt l ≠ 0) : reqFlt l = fldsFlt l := if_pos h
theorem reqFlt_n {l : List DField} (h : fldsFlt l = 0) (h2 : ¬ ReqOk l) : reqFlt l = 3 := by unfold reqFlt; rw [if_neg (by omega), if_neg h2]
theorem reqFlt_y {l : List DField} (h : fldsFlt l = 0) (h2 : ReqOk l) : reqFlt l = 0 := by unfold reqFlt; rw [if_neg (by omega), if_pos h2]
/-- what is known behind k fields -/
structure ReqAt (l : List DField) (k : Nat) (plain : Bool) : Prop where
  le : k ≤ l.length
  ch : ∀ j, j < k → ∀ c ∈ (l.getD j default).Name, chOk c
  seq : ∀ j, j < k → isPs (l.getD j default) → ¬ plainIn l j
  pl : plain = true ↔ plainIn l k
theorem reqAt_0 (l : List DField) : ReqAt l 0 false := ⟨Nat.zero_le _, fun j h => by omega, fun j h => by omega, ⟨fun h => (by cases h), fun ⟨j, h, _⟩ => (by omega)⟩⟩
theorem reqAt_plain {l : List DField} {k : Nat} {plain : Bool} (h : ReqAt l k plain) (hk : k < l.length) (hc : ∀ c ∈ (l.getD k default).Name, chOk c) (hp : ¬ isPs (l.getD k default)) : ReqAt l (k + 1) true := by
  refine ⟨hk, fun j hj => ?_, fun j hj hps => ?_, ⟨fun _ => ⟨k, by omega, hp⟩, fun _ => rfl⟩⟩
  · by_cases e : j = k
    · rw [e]; exact hc
    · exact h.ch j (by omega)
  · by_cases e : j = k
    · rw [e] at hps; exact absurd hps hp
    · exact h.seq j (by omega) hps
theorem reqAt_ps {l : List DField} {k : Nat} (h : ReqAt l k false) (hk : k < l.length) (hc : ∀ c ∈ (l.getD k default).Name, chOk c) (hp : isPs (l.getD k default)) : ReqAt l (k + 1) false := by
  have hn : ¬ plainIn l k := fun hp => by have := h.pl.2 hp; cases this
  refine ⟨hk, fun j hj => ?_, fun j hj hps => ?_, ⟨fun h => (by cases h), fun ⟨j, hj, hjp⟩ => ?_⟩⟩
  · by_cases e : j = k
    · rw [e]; exact hc
    · exact h.ch j (by omega)
  · by_cases e : j = k
    · rw [e]; exact hn
    · exact h.seq j (by omega) hps
  · by_cases e : j = k
    · rw [e] at hjp; exact absurd hp hjp
    · exact absurd ⟨j, by omega, hjp⟩ hn
theorem not_ch {l : List DField} {k i : Nat} (hk : k < l.length) (hi : i < (l.getD k default).Name.length) (hc : ¬ chOk ((l.getD k default).Name.getD i default)) : ¬ ReqOk l := fun h => hc (h.ch _ (getD_mem hk) _ (getD_mem hi))
theorem not_seq {l : List DField} {k : Nat} (h : ReqAt l k true) (hk : k < l.length) (hp : isPs (l.getD k default)) : ¬ ReqOk l := fun ho => ho.seq k hk hp (h.pl.1 rfl)
theorem ps_mem {l : List DField} {k : Nat} (hk : k < l.length) (hp : isPs (l.getD k default)) : (l.getD k default).Name ∈ psN l := by
  have h1 := psN_count l (l.getD k default).Name (k + 1)
  rw [psN_t hk hp, List.count_append] at h1
  rw [List.count_singleton_self] at h1
  exact List.count_pos_iff.1 (by omega)
theorem not_allowed {l : List DField} {k : Nat} (hk : k < l.length) (hp : isPs (l.getD k default)) (ha : ¬ allowed (l.getD k default).Name) : ¬ ReqOk l := fun h => ha (h.good _ (ps_mem hk hp)).1
theorem not_twice {l : List DField} {k : Nat} (hk : k < l.length) (hp : isPs (l.getD k default)) (hc : 1 < acnt (l.getD k default).Name (amOf (psN (l.take k))) + 1) : ¬ ReqOk l := fun h => by
  have h1 := psN_count l (l.getD k default).Name (k + 1)
  rw [psN_t hk hp, List.count_append] at h1
  rw [acnt_am] at hc
  have h2 := (h.good _ (ps_mem hk hp)).2
  rw [List.count_singleton_self] at h1
  omega
theorem upto_succ {P : Nat → Prop} {i : Nat} (h : ∀ j, j < i → P j) (hi : P i) : ∀ j, j < i + 1 → P j := fun j hj => by
  by_cases e : j = i
  · rw [e]; exact hi
  · exact h j (by omega)
theorem good_all {l : List DField} : ∀ k, k ≤ l.length → (∀ j, j < k → isPs (l.getD j default) → allowed (l.getD j default).Name ∧ acnt (l.getD j default).Name (amOf (psN (l.take j))) = 0) → ∀ n ∈ psN (l.take k), allowed n ∧ (psN (l.take k)).count n ≤ 1
  | 0, _, _, n, hn => by simp [psN] at hn
  | k + 1, hk, h, n, hn => by
    have ih := good_all k (by omega) (fun j hj => h j (by omega))
    by_cases hp : isPs (l.getD k default)
    · rw [psN_t (by omega) hp] at hn ⊢
      obtain ⟨h1, h2⟩ := h k (by omega) hp
      rw [acnt_am] at h2
      rw [List.count_append]
      by_cases e : n = (l.getD k default).Name
      · rw [e, h2, List.count_singleton_self]; exact ⟨h1, by omega⟩
      · rcases List.mem_append.1 hn with hn | hn
        · have := ih n hn
          rw [List.count_eq_zero_of_not_mem (a := n) (l := [(l.getD k default).Name]) (by simpa using e)]
          exact ⟨this.1, by omega⟩
        · exact absurd (List.mem_singleton.1 hn) e
    · rw [psN_f (by omega) hp] at hn ⊢
      exact ih n hn
theorem reqOk_of {l : List DField} {plain : Bool} (h : ReqAt l l.length plain) (hg : ∀ n ∈ psN l, allowed n ∧ (psN l).count n ≤ 1) (hm : 1 ≤ acnt nM (amOf (psN l))) (hp : 1 ≤ acnt nP (amOf (psN l))) : ReqOk l := by
  rw [acnt_am] at hm hp
  exact ⟨fun f hf => by
    obtain ⟨j, hj, rfl⟩ := List.getElem_of_mem hf
    have := h.ch j hj
    rwa [List.getD_eq_getElem?_getD, List.getElem?_eq_getElem hj] at this, fun k hk => h.seq k hk, hg, List.count_pos_iff.1 (by omega), List.count_pos_iff.1 (by omega)⟩
theorem reqOk_m {l : List DField} (h : ReqOk l) : acnt nM (amOf (psN l)) = 1 := by
  rw [acnt_am]
  have h1 := List.count_pos_iff.2 h.m
  have h2 := (h.good _ h.m).2
  omega
theorem reqOk_p {l : List DField} (h : ReqOk l) : acnt nP (amOf (psN l)) = 1 := by
  rw [acnt_am]
  have h1 := List.count_pos_iff.2 h.p
  have h2 := (h.good _ h.p).2
  omega
theorem chars_all {f : DField} (h : ∀ i, i < f.Name.length → chOk (f.Name.getD i default)) : ∀ c ∈ f.Name, chOk c := fun c hc => by
  obtain ⟨i, hi, rfl⟩ := List.getElem_of_mem hc
  have := h i hi
  rwa [List.getD_eq_getElem?_getD, List.getElem?_eq_getElem hi] at this
end Go.Proofs.Ythpophgcmgdpjaa
