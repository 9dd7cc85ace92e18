/-
  THE BOUND OF THE SECOND FORM: every list that comes in is of at most 2^32 bytes.
-/
import Derived.Test.YtnbbnedpjfanoaaRows
import Derived.Deep.CondSized
set_option linter.unusedSimpArgs false
set_option linter.unusedVariables false
namespace Go.Proofs.Ytnbbnedpjfanoaa
open Go

theorem bulk_up {n a b K : Nat} (h : n ≤ a * K) (hab : a ≤ b) : n ≤ b * K := Nat.le_trans h (Nat.mul_le_mul_right _ hab)

/-- the types of the program's own table lead to such types, and no slice's element and no map's entry is too wide -/
def Inside (P : Program) (K : Nat) : Prop := ∀ t, t < P.types.size →
  (∀ e, P.underlying t = some (.pointer e) → e < P.types.size) ∧ (∀ e, P.underlying t = some (.slice e) → e < P.types.size ∧ P.bytesOf e ≤ K) ∧
  (∀ fs : Array Field, P.underlying t = some (.struct fs) → ∀ t' ∈ fs.toList.map (·.type), t' < P.types.size) ∧ (∀ n e, P.underlying t = some (.array n e) → e < P.types.size) ∧
  (∀ k e, P.underlying t = some (.map k e) → e < P.types.size ∧ P.bytesOf k + P.bytesOf e ≤ K)
def insideB (P : Program) (K : Nat) : Bool := (List.range P.types.size).all fun t => match P.underlying t with
  | some (.pointer e) => decide (e < P.types.size)
  | some (.slice e) => decide (e < P.types.size) && decide (P.bytesOf e ≤ K)
  | some (.struct fs) => fs.toList.all fun f => decide (f.type < P.types.size)
  | some (.array _ e) => decide (e < P.types.size)
  | some (.map k e) => decide (e < P.types.size) && decide (P.bytesOf k + P.bytesOf e ≤ K)
  | _ => true
theorem inside_of {P : Program} {K : Nat} (h : insideB P K = true) : Inside P K := by
  intro t ht
  have h' := List.all_eq_true.1 h t (List.mem_range.2 ht)
  refine ⟨fun e hu => ?_, fun e hu => ?_, fun fs hu => ?_, fun n e hu => ?_, fun k e hu => ?_⟩ <;> rw [hu] at h'
  · simpa using h'
  · simpa using h'
  · intro t' ht'
    obtain ⟨f, hf, rfl⟩ := List.mem_map.1 ht'
    simpa using List.all_eq_true.1 h' f hf
  · simpa using h'
  · simpa using h'

mutual
theorem bulk_weights {H : Type} {P : Program} {K : Nat} (h1 : 1 ≤ K) (hb : Inside P K) : ∀ (d : DataW H) (t : TypeId), t < P.types.size → ∀ n ∈ d.weights P t, n ≤ Rows.uptoBulk d * K
  | .lit l, t, ht, n, h => by
    cases l with
    | string bytes =>
      simp only [DataW.weights, List.mem_singleton] at h
      simp only [Rows.uptoBulk]
      exact bulk_up (a := bytes.length) (by rw [h]; exact Nat.le_mul_of_pos_right _ h1) (by omega)
    | _ => simp [DataW.weights] at h
  | .nil, t, ht, n, h => by simp [DataW.weights] at h
  | .held _, t, ht, n, h => by simp [DataW.weights] at h
  | .iface _ d, t, ht, n, h => by simp [DataW.weights] at h
  | .ptr d, t, ht, n, h => by
    simp only [DataW.weights] at h
    split at h
    · rename_i hu
      simp only [Rows.uptoBulk]
      exact bulk_up (bulk_weights h1 hb d _ ((hb t ht).1 _ hu) n h) (by omega)
    · simp at h
  | .slice elems spare, t, ht, n, h => by
    simp only [DataW.weights] at h
    split at h
    · rename_i e hu
      simp only [List.mem_cons, List.mem_append] at h
      simp only [Rows.uptoBulk]
      rcases h with rfl | h | h
      · have k1 := bulk_length elems
        have k2 := bulk_length spare
        exact bulk_up (a := elems.length + spare.length) (Nat.mul_le_mul_left _ ((hb t ht).2.1 _ hu).2) (by omega)
      · exact bulk_up (bulk_weightsAll h1 hb elems _ ((hb t ht).2.1 _ hu).1 n h) (by omega)
      · exact bulk_up (bulk_weightsAll h1 hb spare _ ((hb t ht).2.1 _ hu).1 n h) (by omega)
    · simp at h
  | .agg parts, t, ht, n, h => by
    simp only [DataW.weights] at h
    simp only [Rows.uptoBulk]
    split at h
    · rename_i fs hu
      exact bulk_up (bulk_weightsEach h1 hb parts _ ((hb t ht).2.2.1 _ hu) n h) (by omega)
    · rename_i hu
      exact bulk_up (bulk_weightsAll h1 hb parts _ ((hb t ht).2.2.2.1 _ _ hu) n h) (by omega)
    · simp at h
  | .map entries, t, ht, n, h => by
    simp only [DataW.weights] at h
    simp only [Rows.uptoBulk]
    split at h
    · rename_i k e hu
      simp only [List.mem_cons] at h
      rcases h with rfl | h
      · have h1 := bulk_lengthEntries entries
        exact bulk_up (a := entries.length) (Nat.mul_le_mul_left _ ((hb t ht).2.2.2.2 _ _ hu).2) (by omega)
      · exact bulk_up (bulk_weightsEntries h1 hb entries _ ((hb t ht).2.2.2.2 _ _ hu).1 n h) (by omega)
    · simp at h
theorem bulk_weightsAll {H : Type} {P : Program} {K : Nat} (h1 : 1 ≤ K) (hb : Inside P K) : ∀ (l : List (DataW H)) (t : TypeId), t < P.types.size → ∀ n ∈ DataW.weightsAll P t l, n ≤ Rows.uptoBulkAll l * K
  | [], t, ht, n, h => by simp [DataW.weightsAll] at h
  | d :: r, t, ht, n, h => by
    simp only [DataW.weightsAll, List.mem_append] at h
    simp only [Rows.uptoBulkAll]
    rcases h with h | h
    · exact bulk_up (bulk_weights h1 hb d _ ht n h) (by omega)
    · exact bulk_up (bulk_weightsAll h1 hb r _ ht n h) (by omega)
theorem bulk_weightsEach {H : Type} {P : Program} {K : Nat} (h1 : 1 ≤ K) (hb : Inside P K) : ∀ (l : List (DataW H)) (ts : List TypeId), (∀ t ∈ ts, t < P.types.size) → ∀ n ∈ DataW.weightsEach P ts l, n ≤ Rows.uptoBulkAll l * K
  | [], ts, ht, n, h => by cases ts <;> simp [DataW.weightsEach] at h
  | d :: r, ts, ht, n, h => by
    cases ts with
    | nil => simp [DataW.weightsEach] at h
    | cons t ts =>
      simp only [DataW.weightsEach, List.mem_append] at h
      simp only [Rows.uptoBulkAll]
      rcases h with h | h
      · exact bulk_up (bulk_weights h1 hb d _ (ht t (by simp)) n h) (by omega)
      · exact bulk_up (bulk_weightsEach h1 hb r _ (fun t' h' => ht t' (by simp [h'])) n h) (by omega)
theorem bulk_weightsEntries {H : Type} {P : Program} {K : Nat} (h1 : 1 ≤ K) (hb : Inside P K) : ∀ (l : List (Lit × DataW H)) (t : TypeId), t < P.types.size → ∀ n ∈ DataW.weightsEntries P t l, n ≤ Rows.uptoBulkEntries l * K
  | [], t, ht, n, h => by simp [DataW.weightsEntries] at h
  | x :: r, t, ht, n, h => by
    simp only [DataW.weightsEntries, List.mem_append] at h
    simp only [Rows.uptoBulkEntries]
    rcases h with h | h
    · exact bulk_up (bulk_weightsEntry h1 hb x _ ht n h) (by omega)
    · exact bulk_up (bulk_weightsEntries h1 hb r _ ht n h) (by omega)
theorem bulk_weightsEntry {H : Type} {P : Program} {K : Nat} (h1 : 1 ≤ K) (hb : Inside P K) : ∀ (x : Lit × DataW H) (t : TypeId), t < P.types.size → ∀ n ∈ DataW.weightsEntry P t x, n ≤ Rows.uptoBulkEntry x * K
  | (l, d), t, ht, n, h => by
    cases l with
    | string bytes =>
      simp only [DataW.weightsEntry, List.mem_cons] at h
      simp only [Rows.uptoBulkEntry]
      rcases h with h | h
      · exact bulk_up (a := bytes.length) (by rw [h]; exact Nat.le_mul_of_pos_right _ h1) (by omega)
      · exact bulk_up (bulk_weights h1 hb d _ ht n h) (by omega)
    | _ =>
      simp only [DataW.weightsEntry] at h
      simp only [Rows.uptoBulkEntry]
      exact bulk_up (bulk_weights h1 hb d _ ht n h) (by omega)
theorem bulk_one {H : Type} : ∀ (d : DataW H), 1 ≤ Rows.uptoBulk d
  | .lit l => by cases l <;> simp [Rows.uptoBulk]
  | .nil => by simp [Rows.uptoBulk]
  | .held _ => by simp [Rows.uptoBulk]
  | .iface _ d => by simp [Rows.uptoBulk]
  | .ptr d => by simp [Rows.uptoBulk]
  | .slice _ _ => by simp [Rows.uptoBulk]
  | .agg _ => by simp [Rows.uptoBulk]
  | .map _ => by simp [Rows.uptoBulk]
theorem bulk_length {H : Type} : ∀ (l : List (DataW H)), l.length ≤ Rows.uptoBulkAll l
  | [] => by simp [Rows.uptoBulkAll]
  | x :: r => by
    have h1 := bulk_one x
    have h2 := bulk_length r
    simp only [Rows.uptoBulkAll, List.length_cons]; omega
theorem bulk_lengthEntries {H : Type} : ∀ (l : List (Lit × DataW H)), l.length ≤ Rows.uptoBulkEntries l
  | [] => by simp [Rows.uptoBulkEntries]
  | (x, d) :: r => by
    have h1 := bulk_one d
    have h2 := bulk_lengthEntries r
    have h3 : 1 ≤ Rows.uptoBulkEntry (x, d) := by
      cases x <;> simp [Rows.uptoBulkEntry]
    simp only [Rows.uptoBulkEntries, List.length_cons]; omega
end

/-- every weight of what comes in is at most 2^32 -/
theorem bulk_bound {H : Type} {P : Program} (hb : Inside P 4096) {l : List (DataW H)} {ts : List TypeId} (ht : ∀ t ∈ ts, t < P.types.size) (hk : Rows.uptoSmall H l = true) : ∀ n ∈ DataW.weightsEach P ts l, n ≤ 4294967296 := by
  intro n hn
  have h1 : Rows.uptoBulkAll l ≤ 1048576 := of_decide_eq_true hk
  exact Nat.le_trans (bulk_weightsEach (K := 4096) (by omega) hb l ts ht n hn) (Nat.mul_le_mul_right 4096 h1)
end Go.Proofs.Ytnbbnedpjfanoaa
