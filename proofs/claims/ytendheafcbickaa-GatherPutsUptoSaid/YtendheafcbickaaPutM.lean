/-
  gather.Put's reference: the map and the sorted places. Plain.
-/
import Derived.Test.YtendheafcbickaaGA
import Derived.Test.YtendheafcbickaaPutL
import Derived.Test.YtendheafcbickaaSortI
import Derived.Test.YtendheafcbickaaAbsM
set_option linter.unusedVariables false
set_option linter.unusedSimpArgs false
set_option linter.unusedVariables false
namespace Go.Proofs.Ytendheafcbickaa
set_option maxRecDepth 100000

def kvB (y : Int × UInt8) : Value × Value := (.int .i64 y.1, .int .u8 (y.2.toNat : Int))
theorem kEq_i (x y : Int) : kEq (.int .i64 x) (.int .i64 y) = decide (x = y) := by
  show (x == y) = _
  rw [Bool.eq_iff_iff]; simp
theorem mput_b (x : Int) (c : UInt8) : ∀ (M : List (Int × UInt8)), mput (.int .i64 x) (.int .u8 (c.toNat : Int)) (M.map kvB) = (bput x c M).map kvB
  | [] => rfl
  | p :: r => by
    simp only [List.map_cons, mput, bput]
    have h : kEq (.int .i64 x) (kvB p).1 = decide (x = p.1) := kEq_i x p.1
    rw [h]
    by_cases hx : x = p.1
    · rw [if_pos hx, decide_eq_true hx]; rfl
    · rw [if_neg hx, decide_eq_false hx]
      simp only [cond_false, List.map_cons, mput_b x c r]
theorem mlook_b (x : Int) : ∀ (M : List (Int × UInt8)), mlook (.int .i64 x) (M.map kvB) = (blook x M).map (fun c => .int .u8 (c.toNat : Int))
  | [] => rfl
  | p :: r => by
    simp only [List.map_cons, mlook, blook]
    have h : kEq (.int .i64 x) (kvB p).1 = decide (x = p.1) := kEq_i x p.1
    rw [h]
    by_cases hx : x = p.1
    · rw [if_pos hx, decide_eq_true hx]; rfl
    · rw [if_neg hx, decide_eq_false hx]
      simp only [cond_false, mlook_b x r]
def bAt (M : List (Int × UInt8)) (x : Int) : UInt8 := (blook x M).getD 0
theorem look_bAt (x : Int) (M : List (Int × UInt8)) : (mlook (.int .i64 x) (M.map kvB)).getD (.int .u8 0) = .int .u8 ((bAt M x).toNat : Int) := by
  rw [mlook_b]
  unfold bAt
  cases blook x M <;> rfl
theorem bput_len (x : Int) (c : UInt8) : ∀ (M : List (Int × UInt8)), (bput x c M).length ≤ M.length + 1
  | [] => by simp [bput]
  | p :: r => by
    have := bput_len x c r
    unfold bput
    split <;> simp <;> omega
theorem bAll_len : ∀ (l M : List (Int × UInt8)), (bAll M l).length ≤ M.length + l.length
  | [], M => by simp [bAll]
  | y :: l, M => by
    have h1 := bAll_len l (bput y.1 y.2 M)
    have h2 := bput_len y.1 y.2 M
    unfold bAll
    simp; omega
theorem fl_len : ∀ (d : List UInt8) (o : Int), (fl o d).length = d.length
  | [], _ => rfl
  | c :: d, o => by simp [fl, fl_len d]
theorem flP_len : ∀ (l : List DPiece), (flP l).length = szP l
  | [] => rfl
  | p :: l => by
    have := flP_len l
    unfold flP at *
    rw [List.flatMap_cons, List.length_append, fl_len, this]; rfl
theorem ks_rng {lo hi : Int} : ∀ {l M : List (Int × UInt8)}, (∀ y ∈ l, lo ≤ y.1 ∧ y.1 < hi) → (∀ y ∈ M, lo ≤ y.1 ∧ y.1 < hi) → ∀ x ∈ ks (bAll M l), lo ≤ x ∧ x < hi := by
  intro l M hl hM x hx
  rcases (ks_all x l M).1 hx with h | h
  · obtain ⟨y, hy, rfl⟩ := List.mem_map.1 h; exact hM y hy
  · obtain ⟨y, hy, rfl⟩ := List.mem_map.1 h; exact hl y hy
theorem srt_perm (l : List Int) : (srt l).Perm l := List.mergeSort_perm _ _
theorem srt_asc (l : List Int) : (srt l).Pairwise (· ≤ ·) := by
  have h := List.pairwise_mergeSort (le := fun x y : Int => decide (x ≤ y)) (fun a b c h1 h2 => by simp at *; omega) (fun a b => by simp; omega) l
  exact h.imp (fun h => by simpa using h)
theorem okH_of : ∀ {l : List DPiece} {f : Bool} {a b : Int}, gEnd f a l = some b → okH a l
  | [], _, _, _, _ => trivial
  | p :: l, f, a, b, h => by
    unfold gEnd at h
    split at h
    · rename_i hc
      exact ⟨fun e => by rw [e] at hc; simp at hc, hc.2.1, okH_of h⟩
    · cases h
theorem flt_okH {g : DGather} (h : gatherFlt g = 0) : okH g.Done g.Held := by
  unfold gatherFlt at h
  split at h
  · rename_i hc
    cases he : gEnd true g.Done g.Held with
    | none => rw [he] at hc; exact absurd hc.2 (by simp [gTail])
    | some b => exact okH_of he
  · cases h
theorem szP_le : ∀ {l : List DPiece} {B : Nat}, (∀ p ∈ l, p.Data.length ≤ B) → szP l ≤ B * l.length
  | [], _, _ => Nat.zero_le _
  | p :: l, B, h => by
    have h1 := h p List.mem_cons_self
    have h2 := szP_le (fun q hq => h q (List.mem_cons_of_mem _ hq))
    have : B * (l.length + 1) = B * l.length + B := Nat.mul_succ _ _
    unfold szP
    rw [List.length_cons]; omega
theorem fl_drop {data : List UInt8} {off : Int} {k : Nat} (h : k < data.length) : fl (off + k) (data.drop k) = (off + k, data.getD k default) :: fl (off + (k + 1 : Nat)) (data.drop (k + 1)) := by
  have e : data.drop k = data.getD k default :: data.drop (k + 1) := drop_cons h
  rw [e]
  show (off + k, data.getD k default) :: fl (off + k + 1) (data.drop (k + 1)) = _
  rw [show off + (k : Int) + 1 = off + ((k + 1 : Nat) : Int) by omega]
theorem perm_erase : ∀ (L : List (Int × UInt8)) (i : Nat) (h : i < L.length), ([L[i].1] ++ ks (L.eraseIdx i)).Perm (ks L)
  | [], i, h => by simp at h
  | y :: L, 0, _ => by simp [ks]
  | y :: L, i + 1, h => by
    have := perm_erase L i (by simpa using h)
    simp only [ks, List.getElem_cons_succ, List.eraseIdx_cons_succ, List.map_cons, List.singleton_append] at this ⊢
    exact (List.Perm.swap _ _ _).trans (List.Perm.cons _ this)
/-- the pieces so far, behind the first k places -/
def prOk (P : List Int) (k : Nat) : Option (List DPiece × DPiece) → Prop
  | none => k = 0
  | some (L, q) => 1 ≤ k ∧ L.length + 1 ≤ k ∧ q.Data.length ≤ k ∧ P.getD (k - 1) default = q.Off + q.Data.length - 1 ∧ 1 ≤ q.Data.length
end Go.Proofs.Ytendheafcbickaa
