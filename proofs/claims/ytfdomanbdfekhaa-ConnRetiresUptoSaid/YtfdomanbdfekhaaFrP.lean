/-
  What a kind of frame has: frame.partsOf, frame.may, frame.told, and the reference's has and in: one answer each. No condition.
-/
import Derived.Test.YtfdomanbdfekhaaGo
import Derived.Test.YtfdomanbdfekhaaRgs
import Derived.Test.YtfdomanbdfekhaaByt
import Derived.Test.YtfdomanbdfekhaaAbsB
set_option linter.unusedVariables false
set_option linter.unusedSimpArgs false
set_option linter.unusedVariables false
namespace Go.Proofs.Ytfdomanbdfekhaa
set_option maxRecDepth 100000
attribute [local irreducible] Run RunL QStep GStep Fn Less PL FnM

/-- what a kind has, by letters -/
def hasB (k : Int) : List UInt8 := if k = 2 then [114] else if k = 4 then [105, 111, 99] else if k = 5 then [105, 99] else if k = 6 then [111, 100] else if k = 7 then [100] else if k = 8 then [105, 111, 100, 102] else if k = 16 then [111] else if k = 17 then [105, 111] else if k = 18 then [111] else if k = 26 then [119] else if k = 27 then [119] else if k = 28 then [99] else []
def kOk (k : Int) : Bool := decide (k = 0 ∨ k = 1 ∨ k = 2 ∨ k = 4 ∨ k = 5 ∨ k = 6 ∨ k = 7 ∨ k = 8 ∨ k = 16 ∨ k = 17 ∨ k = 18 ∨ k = 26 ∨ k = 27 ∨ k = 28 ∨ k = 30)
def hasI (s : List UInt8) (c : Int) : Bool := s.any (fun x => decide ((x.toNat : Int) = c))
theorem kind_cases (k : Int) : k = 0 ∨ k = 1 ∨ k = 2 ∨ k = 4 ∨ k = 5 ∨ k = 6 ∨ k = 7 ∨ k = 8 ∨ k = 16 ∨ k = 17 ∨ k = 18 ∨ k = 26 ∨ k = 27 ∨ k = 28 ∨ k = 30 ∨ (¬ k = 0 ∧ ¬ k = 1 ∧ ¬ k = 2 ∧ ¬ k = 4 ∧ ¬ k = 5 ∧ ¬ k = 6 ∧ ¬ k = 7 ∧ ¬ k = 8 ∧ ¬ k = 16 ∧ ¬ k = 17 ∧ ¬ k = 18 ∧ ¬ k = 26 ∧ ¬ k = 27 ∧ ¬ k = 28 ∧ ¬ k = 30) := by omega
theorem kOk_other {k : Int} (h : ¬ k = 0 ∧ ¬ k = 1 ∧ ¬ k = 2 ∧ ¬ k = 4 ∧ ¬ k = 5 ∧ ¬ k = 6 ∧ ¬ k = 7 ∧ ¬ k = 8 ∧ ¬ k = 16 ∧ ¬ k = 17 ∧ ¬ k = 18 ∧ ¬ k = 26 ∧ ¬ k = 27 ∧ ¬ k = 28 ∧ ¬ k = 30) : kOk k = false ∧ hasB k = [] := by
  unfold kOk hasB
  obtain ⟨h0, h1, h2, h3, h4, h5, h6, h7, h8, h9, h10, h11, h12, h13, h14⟩ := h
  refine ⟨decide_eq_false (by omega), ?_⟩
  rw [if_neg h2, if_neg h3, if_neg h4, if_neg h5, if_neg h6, if_neg h7, if_neg h8, if_neg h9, if_neg h10, if_neg h11, if_neg h12, if_neg h13]
def encPs (s : List UInt8) : List V := [.lit (.bool (hasI s 105)), .lit (.bool (hasI s 111)), .lit (.bool (hasI s 99 || hasI s 119)), .lit (.bool (hasI s 100)), .lit (.bool (hasI s 102)), .lit (.bool (hasI s 119))]
set_option maxHeartbeats 2000000 in
theorem partsOf_fn (k : Int) : Fn Try.prog 136 [.lit (.int .i64 k)] (.tup [.agg (encPs (hasB k)), .lit (.bool (kOk k))]) := by
  refine fn_of_run (by kernel_rfl) Try.func136 rfl (by kernel_rfl) ?_
  (repeat' first | (refine go_ ?_; ((repeat' first | exact True.intro | refine Two.mk ?_ ?_); all_goals intros)) | fail "")
  all_goals first
    | (subst_vars; exact ends_ (hr := rfl))
    | (refine ends_ (hr := ?_); obtain ⟨e1, e2⟩ := kOk_other (k := k) (by omega); rw [e1, e2]; rfl)
def hasM : List (Value × Value) := [(.int .i64 0, .string (strB [])), (.int .i64 1, .string (strB [])), (.int .i64 2, .string (strB [114])), (.int .i64 4, .string (strB [105, 111, 99])), (.int .i64 5, .string (strB [105, 99])), (.int .i64 6, .string (strB [111, 100])), (.int .i64 7, .string (strB [100])), (.int .i64 8, .string (strB [105, 111, 100, 102])), (.int .i64 16, .string (strB [111])), (.int .i64 17, .string (strB [105, 111])), (.int .i64 18, .string (strB [111])), (.int .i64 26, .string (strB [119])), (.int .i64 27, .string (strB [119])), (.int .i64 28, .string (strB [99])), (.int .i64 30, .string (strB []))]
theorem kEq_ne {a b : Int} (h : ¬ a = b) : kEq (.int .i64 a) (.int .i64 b) = false := by simp [kEq, h]
theorem hasM_look (k : Int) : (mlook (.int .i64 k) hasM).getD (.string (strB [])) = .string (strB (hasB k)) ∧ (mlook (.int .i64 k) hasM).isSome = kOk k := by
  rcases kind_cases k with rfl | rfl | rfl | rfl | rfl | rfl | rfl | rfl | rfl | rfl | rfl | rfl | rfl | rfl | rfl | h
  iterate 15 exact ⟨rfl, rfl⟩
  obtain ⟨e1, e2⟩ := kOk_other h
  obtain ⟨h0, h1, h2, h3, h4, h5, h6, h7, h8, h9, h10, h11, h12, h13, h14⟩ := h
  have : mlook (.int .i64 k) hasM = none := by
    unfold hasM
    simp only [mlook, kEq_ne, h0, h1, h2, h3, h4, h5, h6, h7, h8, h9, h10, h11, h12, h13, h14, not_false_eq_true, cond_false]
  rw [this, e1, e2]
  exact ⟨rfl, rfl⟩
set_option maxHeartbeats 2000000 in
theorem has_fn (k : Int) : Fn Try.prog 129 [.lit (.int .i64 k)] (.tup [.lit (.string (strB (hasB k))), .lit (.bool (kOk k))]) := by
  obtain ⟨g1, g2⟩ := hasM_look k
  refine fn_of_run (by kernel_rfl) Try.func129 rfl (by kernel_rfl) ?_
  (repeat' first | (refine s_look2 (r := (.string (strB (hasB k)))) (b := (kOk k)) ?_ ?_ (h := ?_); (focus ((first | exact g1 | exact g2))); (focus ((first | exact g1 | exact g2)))) | (refine go_ ?_; ((repeat' first | exact True.intro | refine Two.mk ?_ ?_); all_goals intros)) | fail "")
  all_goals exact ends_ (hr := rfl)
theorem in_fn (s : List UInt8) (c : Int) (hs : s.length ≤ 1000) : Fn Try.prog 142 [.lit (.string (strB s)), .lit (.int .u8 c)] (.lit (.bool (hasI s c))) := by
  refine fn_of_run (by kernel_rfl) Try.func142 rfl (by kernel_rfl) ?_
  (repeat' first | (refine go_ ?_; ((repeat' first | exact True.intro | refine Two.mk ?_ ?_); all_goals intros)) | fail "")
  refine r_for (fun k : Nat => ⟨[(0, .lit (.string (strB s))), (1, .lit (.int .u8 c)), (5, .lit (.int .i64 k))], [], 0, Try.f142.ntmps⟩)
    (fun k => k ≤ s.length ∧ AllTo (fun i => ¬ ((s.getD i default).toNat : Int) = c) k) (fun k => s.length - k) 0 ⟨Nat.zero_le _, allTo0⟩ less_to ?_
  rintro k ⟨hk, ha⟩
  by_cases hkn : k < s.length
  · (repeat' first | (refine go_ ?_; ((repeat' first | exact True.intro | refine Two.mk ?_ ?_); all_goals intros)) | fail "")
    all_goals first
      | (refine ⟨k + 1, ?_, ?_, ?_⟩; rotate_left 2; (exact lessA_); (focus (omega)); (focus (exact ⟨hkn, allTo_succ.2 ⟨ha, by assumption⟩⟩)))
      | (refine ends_ (hr := ?_); rw [show hasI s c = true from List.any_eq_true.2 ⟨_, getD_mem hkn, decide_eq_true (by assumption)⟩])
  · (repeat' first | (refine go_ ?_; ((repeat' first | exact True.intro | refine Two.mk ?_ ?_); all_goals intros)) | fail "")
    all_goals (refine ends_ (hr := ?_); rw [show hasI s c = false from ?_]; refine List.any_eq_false.2 fun x hx => ?_; obtain ⟨i, hi, rfl⟩ := List.getElem_of_mem hx; have := ha i (by omega); dsimp only at this; rw [List.getD_eq_getElem?_getD, List.getElem?_eq_getElem hi] at this; simpa using this)
theorem may_fn (b : Bool) (n : Int) : Fn Try.prog 137 [.lit (.bool b), .lit (.int .i64 n)] (.lit (.bool (decide (0 ≤ n ∧ n ≤ 4611686018427387903 ∧ (b = true ∨ n = 0))))) := by
  cases b
  all_goals refine fn_of_run (by kernel_rfl) Try.func137 rfl (by kernel_rfl) ?_
  all_goals (repeat' first | (refine go_ ?_; ((repeat' first | exact True.intro | refine Two.mk ?_ ?_); all_goals intros)) | fail "")
  all_goals refine ends_ (hr := ?_)
  all_goals first
    | (rw [decide_eq_true (by simp; omega)] <;> rfl)
    | (rw [decide_eq_false (by simp; omega)] <;> rfl)
theorem frameTold_fn (l : List DRange) (hw : ∀ y, y ∈ l → wfRange y) (hl : l.length * 16 ≤ 140737488351232) : Fn Try.prog 138 [.ro (l.map encRange)] (.lit (.bool (decide (rFlt l.reverse = 0)))) := by
  have h1 := rangesCheck_fn l.reverse (fun y hy => hw y (List.mem_reverse.1 hy)) (by rw [List.length_reverse]; omega)
  refine fn_of_run (by kernel_rfl) Try.func138 rfl (by kernel_rfl) ?_
  (repeat' first | (refine go_ ?_; ((repeat' first | exact True.intro | refine Two.mk ?_ ?_); all_goals intros)) | fail "")
  refine r_for (fun k : Nat => ⟨[(0, .ro (l.map encRange)), (4, .lit (.int .i64 ((k : Int) - 1))), (3, .own 0)], [(0, some (.row 153 2 ((l.drop k).reverse.map encRange)))], 1, Try.f138.ntmps⟩)
    (fun k => k ≤ l.length) (fun k => k) l.length (Nat.le_refl _) (by rw [List.drop_length]; exact (less_own (n := 0) (t := 3) 153 2 rfl rfl rfl).trans less_to) ?_
  intro k hk
  by_cases hk0 : 0 < k
  · have hkl : k - 1 < l.length := by omega
    have e : (l.drop (k - 1)).reverse = (l.drop k).reverse ++ [l.getD (k - 1) default] := by rw [drop_cons hkl, List.reverse_cons, show k - 1 + 1 = k by omega]
    have htl : (l.drop k).length = l.length - k := List.length_drop
    have ek : (k : Int) - 1 = ((k - 1 : Nat) : Int) := by omega
    (repeat' first | (refine s_app (r := ((l.drop (k - 1)).reverse).map encRange) ?_ ?_ ?_ ?_ (h := ?_); (focus (rw [e, List.map_append]; rfl)); (focus (exact len_one rfl)); (focus ((conv => lhs; rhs; whnf); simp only [List.length_map, List.length_reverse, List.length_cons, List.length_nil]; omega)); (focus (simp only [List.length_map, List.length_reverse, List.length_cons, List.length_nil]; omega))) | (refine go_ ?_; ((repeat' first | exact True.intro | refine Two.mk ?_ ?_); all_goals intros)) | fail "")
    all_goals (refine ⟨k - 1, ?_, ?_, ?_⟩; rotate_left 2; (exact lessA_); (focus (omega)); (focus (omega)))
  · have : k = 0 := by omega
    subst this
    rw [List.drop_zero]
    (repeat' first | (refine s_snap (h1) (h := ?_)) | (refine p_snapO (h1) (h := ?_)) | (refine go_ ?_; ((repeat' first | exact True.intro | refine Two.mk ?_ ?_); all_goals intros)) | fail "")
    all_goals (refine ends_ (hr := ?_); first | rw [decide_eq_true (by assumption)] | rw [decide_eq_false (by assumption)])
end Go.Proofs.Ytfdomanbdfekhaa
