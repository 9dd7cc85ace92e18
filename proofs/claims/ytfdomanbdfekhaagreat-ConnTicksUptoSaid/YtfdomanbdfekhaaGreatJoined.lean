/-
  The reference's joined: ranges in any order, joined: what it answers. No condition.
-/
import Derived.Test.YtfdomanbdfekhaaGreatGA
import Derived.Test.YtfdomanbdfekhaaGreatSortJ
import Derived.Test.YtfdomanbdfekhaaGreatAbsB
set_option linter.unusedVariables false
set_option linter.unusedSimpArgs false
set_option linter.unusedVariables false
namespace Go.Proofs.YtfdomanbdfekhaaGreat
set_option maxRecDepth 100000
attribute [local irreducible] Run RunL QStep GStep Fn Less PL FnM

/-- a range put behind what is joined -/
def jStep (out : List DRange) (r : DRange) : List DRange :=
  if out.length = 0 then [r] else if r.Lo ≤ (out.getD (out.length - 1) default).Hi + 1 then out.set (out.length - 1) ⟨(out.getD (out.length - 1) default).Lo, max (out.getD (out.length - 1) default).Hi r.Hi⟩ else out ++ [r]
def jOut (m : List DRange) : List DRange := m.foldl jStep []
theorem jStep_snoc (d : List DRange) (c r : DRange) : jStep (d ++ [c]) r = if r.Lo ≤ c.Hi + 1 then d ++ [⟨c.Lo, max c.Hi r.Hi⟩] else d ++ [c] ++ [r] := by
  have h1 : (d ++ [c]).getD ((d ++ [c]).length - 1) default = c := by simp [List.getD_eq_getElem?_getD]
  unfold jStep
  rw [if_neg (by simp), h1]
  split
  · congr 1
    simp [List.set_append]
  · rfl
theorem foldl_jn : ∀ (m d : List DRange) (c : DRange), m.foldl jStep (d ++ [c]) = d ++ jn c m
  | [], d, c => rfl
  | r :: m, d, c => by
    rw [List.foldl_cons, jStep_snoc]
    unfold jn
    split
    · exact foldl_jn m d _
    · rw [foldl_jn m (d ++ [c]) r, List.append_assoc]; rfl
theorem jOut_eq (m : List DRange) : jOut m = jnd m := by
  cases m with
  | nil => rfl
  | cons x m =>
    have := foldl_jn m [] x
    exact this
theorem jOut_snoc {m : List DRange} {k : Nat} (h : k < m.length) : jOut (m.take (k + 1)) = jStep (jOut (m.take k)) (m.getD k default) := by
  unfold jOut
  rw [take_snoc h, List.foldl_append]
  rfl
theorem jStep_good {out : List DRange} {r : DRange} (ho : ∀ x ∈ out, rGood x) (hr : rGood r) : ∀ x ∈ jStep out r, rGood x := by
  intro x hx
  unfold jStep at hx
  split at hx
  · rw [List.mem_singleton] at hx; subst hx; exact hr
  · split at hx
    · have h1 : (out.getD (out.length - 1) default) ∈ out := getD_mem (by omega)
      rcases List.mem_or_eq_of_mem_set hx with h | h
      · exact ho x h
      · have := ho _ h1
        subst h
        unfold rGood at this hr ⊢
        dsimp only
        omega
    · rcases List.mem_append.1 hx with h | h
      · exact ho x h
      · rw [List.mem_singleton] at h; subst h; exact hr
theorem jStep_len (out : List DRange) (r : DRange) : (jStep out r).length ≤ out.length + 1 := by
  unfold jStep
  split
  · simp
  · split <;> simp
theorem foldl_good : ∀ {m out : List DRange}, (∀ x ∈ out, rGood x) → (∀ x ∈ m, rGood x) → ∀ x ∈ m.foldl jStep out, rGood x
  | [], out, ho, _ => ho
  | r :: m, out, ho, hm => foldl_good (m := m) (jStep_good ho (hm r (List.mem_cons_self ..))) (fun x hx => hm x (List.mem_cons_of_mem _ hx))
theorem foldl_len : ∀ (m out : List DRange), (m.foldl jStep out).length ≤ out.length + m.length
  | [], out => by simp
  | r :: m, out => by
    have h1 := foldl_len m (jStep out r)
    have h2 := jStep_len out r
    rw [List.foldl_cons, List.length_cons]
    omega
theorem jOut_good {m : List DRange} (hm : ∀ x ∈ m, rGood x) : ∀ x ∈ jOut m, rGood x := foldl_good (fun x hx => by cases hx) hm
theorem jOut_len (m : List DRange) : (jOut m).length ≤ m.length := by
  have := foldl_len m []
  simpa [jOut] using this

theorem set_hi (out : List DRange) (i : Nat) (hi : i < out.length) (v : Int) : (out.map encRange).set i (setAt 1 [.lit (.int .i64 v)] (eAt (out.map encRange) i)) = (out.set i ⟨(out.getD i default).Lo, v⟩).map encRange := by
  rw [eAt_enc _ _ hi, List.map_set]
  rfl
set_option maxHeartbeats 2000000 in
theorem joined_fn (l R : List DRange) (hg : ∀ x ∈ l, rGood x) (hl : l.length * 16 ≤ 140737488355328) (hR : rSet (-2) R) (hin : ∀ n, inL R n ↔ inL l n) : Fn Tryz.prog 79 [.ro (l.map encRange)] (.ro (R.map encRange)) := by
  have hp : ∀ x ∈ l, 0 ≤ x.Lo := fun x hx => (hg x hx).1
  refine fn_of_run (by kernel_rfl) Tryz.func79 rfl (by kernel_rfl) ?_
  (repeat' first | (refine s_app (r := l.map encRange) ?_ ?_ ?_ ?_ (h := ?_); (focus (first | with_reducible rfl | with_reducible exact List.nil_append _ | with_reducible exact (List.map_append ..).symm | (rw [take_snoc (by assumption), List.map_append]; rfl) | (rw [List.map_append]; rfl) | (simp; done))); (focus (first | exact len_none | exact len_one rfl | exact len_two rfl rfl | exact len_enc (fun _ => rfl))); (focus ((conv => lhs; rhs; whnf); simp only [List.length_map, List.length_append, List.length_cons, List.length_nil, List.length_take]; omega)); (focus (simp only [List.length_map, List.length_append, List.length_cons, List.length_nil, List.length_take]; omega))) | (refine s_app0R (r := l.map encRange) ?_ ?_ ?_ ?_ (h := ?_); (focus (first | with_reducible rfl | with_reducible exact List.nil_append _ | with_reducible exact (List.map_append ..).symm | (rw [take_snoc (by assumption), List.map_append]; rfl) | (rw [List.map_append]; rfl) | (simp; done))); (focus (first | exact len_none | exact len_one rfl | exact len_two rfl rfl | exact len_enc (fun _ => rfl))); (focus ((conv => lhs; rhs; whnf); simp only [List.length_map, List.length_append, List.length_cons, List.length_nil, List.length_take]; omega)); (focus (simp only [List.length_map, List.length_append, List.length_cons, List.length_nil, List.length_take]; omega))) | (refine p_app (r := l.map encRange) ?_ ?_ ?_ ?_ (h := ?_); (focus (first | with_reducible rfl | with_reducible exact List.nil_append _ | with_reducible exact (List.map_append ..).symm | (rw [take_snoc (by assumption), List.map_append]; rfl) | (rw [List.map_append]; rfl) | (simp; done))); (focus (first | exact len_none | exact len_one rfl | exact len_two rfl rfl | exact len_enc (fun _ => rfl))); (focus ((conv => lhs; rhs; whnf); simp only [List.length_map, List.length_append, List.length_cons, List.length_nil, List.length_take]; omega)); (focus (simp only [List.length_map, List.length_append, List.length_cons, List.length_nil, List.length_take]; omega))) | (refine p_app0R (r := l.map encRange) ?_ ?_ ?_ ?_ (h := ?_); (focus (first | with_reducible rfl | with_reducible exact List.nil_append _ | with_reducible exact (List.map_append ..).symm | (rw [take_snoc (by assumption), List.map_append]; rfl) | (rw [List.map_append]; rfl) | (simp; done))); (focus (first | exact len_none | exact len_one rfl | exact len_two rfl rfl | exact len_enc (fun _ => rfl))); (focus ((conv => lhs; rhs; whnf); simp only [List.length_map, List.length_append, List.length_cons, List.length_nil, List.length_take]; omega)); (focus (simp only [List.length_map, List.length_append, List.length_cons, List.length_nil, List.length_take]; omega))) | (refine go_ ?_; ((repeat' first | exact True.intro | refine Two.mk ?_ ?_); all_goals intros)) | fail "")
  refine s_sortR l hp (by omega) (h := ?_)
  intro m hm hml hs
  have hmR : jOut m = R := by rw [jOut_eq]; exact jnd_eq hm hg hs hR hin
  have hmg : ∀ x ∈ m, rGood x := fun x hx => hg x ((hm x).1 hx)
  clear hm hs hR hin hp hg
  (repeat' first | (refine go_ ?_; ((repeat' first | exact True.intro | refine Two.mk ?_ ?_); all_goals intros)) | fail "")
  refine r_for (fun k : Nat => ⟨[(14, .own 2), (15, .lit (.int .i64 m.length)), (16, .lit (.int .i64 k)), (3, .own 3)], [(2, some (.row 99 2 (m.map encRange))), (3, some (.row 99 2 ((jOut (m.take k)).map encRange)))], 4, Tryz.f79.ntmps⟩)
    (fun k => k ≤ m.length) (fun k => m.length - k) 0 (Nat.zero_le _) ((less_own (n := 3) (t := 3) 99 2 rfl rfl rfl).trans less_to) ?_
  intro k hk
  by_cases hkn : k < m.length
  · have hx := hmg _ (getD_mem hkn)
    have hgo := jOut_good (m := m.take k) (fun x hx => hmg x (List.mem_of_mem_take hx))
    have hlo := jOut_len (m.take k)
    rw [List.length_take] at hlo
    have hsn := jOut_snoc hkn
    generalize jOut (m.take k) = out at hgo hlo hsn ⊢
    unfold jStep at hsn
    unfold rGood at hx
    by_cases c0 : out.length = 0
    · rw [if_pos c0] at hsn
      obtain rfl := List.length_eq_zero_iff.1 c0
      (repeat' first | (refine s_app (r := (jOut (m.take (k + 1))).map encRange) ?_ ?_ ?_ ?_ (h := ?_); (focus (first | (rw [hsn]; rfl) | with_reducible rfl | with_reducible exact List.nil_append _ | with_reducible exact (List.map_append ..).symm | (rw [take_snoc (by assumption), List.map_append]; rfl) | (rw [List.map_append]; rfl) | (simp; done))); (focus (first | exact len_none | exact len_one rfl | exact len_two rfl rfl | exact len_enc (fun _ => rfl))); (focus ((conv => lhs; rhs; whnf); simp only [List.length_map, List.length_append, List.length_cons, List.length_nil, List.length_take]; omega)); (focus (simp only [List.length_map, List.length_append, List.length_cons, List.length_nil, List.length_take]; omega))) | (refine s_app0R (r := (jOut (m.take (k + 1))).map encRange) ?_ ?_ ?_ ?_ (h := ?_); (focus (first | (rw [hsn]; rfl) | with_reducible rfl | with_reducible exact List.nil_append _ | with_reducible exact (List.map_append ..).symm | (rw [take_snoc (by assumption), List.map_append]; rfl) | (rw [List.map_append]; rfl) | (simp; done))); (focus (first | exact len_none | exact len_one rfl | exact len_two rfl rfl | exact len_enc (fun _ => rfl))); (focus ((conv => lhs; rhs; whnf); simp only [List.length_map, List.length_append, List.length_cons, List.length_nil, List.length_take]; omega)); (focus (simp only [List.length_map, List.length_append, List.length_cons, List.length_nil, List.length_take]; omega))) | (refine p_app (r := (jOut (m.take (k + 1))).map encRange) ?_ ?_ ?_ ?_ (h := ?_); (focus (first | (rw [hsn]; rfl) | with_reducible rfl | with_reducible exact List.nil_append _ | with_reducible exact (List.map_append ..).symm | (rw [take_snoc (by assumption), List.map_append]; rfl) | (rw [List.map_append]; rfl) | (simp; done))); (focus (first | exact len_none | exact len_one rfl | exact len_two rfl rfl | exact len_enc (fun _ => rfl))); (focus ((conv => lhs; rhs; whnf); simp only [List.length_map, List.length_append, List.length_cons, List.length_nil, List.length_take]; omega)); (focus (simp only [List.length_map, List.length_append, List.length_cons, List.length_nil, List.length_take]; omega))) | (refine p_app0R (r := (jOut (m.take (k + 1))).map encRange) ?_ ?_ ?_ ?_ (h := ?_); (focus (first | (rw [hsn]; rfl) | with_reducible rfl | with_reducible exact List.nil_append _ | with_reducible exact (List.map_append ..).symm | (rw [take_snoc (by assumption), List.map_append]; rfl) | (rw [List.map_append]; rfl) | (simp; done))); (focus (first | exact len_none | exact len_one rfl | exact len_two rfl rfl | exact len_enc (fun _ => rfl))); (focus ((conv => lhs; rhs; whnf); simp only [List.length_map, List.length_append, List.length_cons, List.length_nil, List.length_take]; omega)); (focus (simp only [List.length_map, List.length_append, List.length_cons, List.length_nil, List.length_take]; omega))) | (refine go_ ?_; ((repeat' first | exact True.intro | refine Two.mk ?_ ?_); all_goals intros)) | fail "")
      all_goals (refine ⟨k + 1, ?_, ?_, ?_⟩; rotate_left 2; (exact lessA_); (focus (omega)); (focus (exact hkn)))
    · rw [if_neg c0] at hsn
      have hc := hgo _ (getD_mem (show out.length - 1 < out.length by omega))
      unfold rGood at hc
      by_cases c1 : (m.getD k default).Lo ≤ (out.getD (out.length - 1) default).Hi + 1
      · rw [if_pos c1] at hsn
        (repeat' first | (refine s_set (r := (jOut (m.take (k + 1))).map encRange) ?_ ?_ (h := ?_); (focus (first | omega | (simp only [List.length_map, List.length_append, List.length_take, List.length_drop, List.length_replicate]; omega))); (focus ((rw [hsn]; exact set_hi out (out.length - 1) (by omega) _)))) | (refine p_set (r := (jOut (m.take (k + 1))).map encRange) ?_ ?_ (h := ?_); (focus (first | omega | (simp only [List.length_map, List.length_append, List.length_take, List.length_drop, List.length_replicate]; omega))); (focus ((rw [hsn]; exact set_hi out (out.length - 1) (by omega) _)))) | (refine go_ ?_; ((repeat' first | exact True.intro | refine Two.mk ?_ ?_); all_goals intros)) | fail "")
        all_goals (refine ⟨k + 1, ?_, ?_, ?_⟩; rotate_left 2; (exact lessA_); (focus (omega)); (focus (exact hkn)))
      · rw [if_neg c1] at hsn
        (repeat' first | (refine s_app (r := (jOut (m.take (k + 1))).map encRange) ?_ ?_ ?_ ?_ (h := ?_); (focus (first | (rw [hsn]; simp; rfl) | with_reducible rfl | with_reducible exact List.nil_append _ | with_reducible exact (List.map_append ..).symm | (rw [take_snoc (by assumption), List.map_append]; rfl) | (rw [List.map_append]; rfl) | (simp; done))); (focus (first | exact len_none | exact len_one rfl | exact len_two rfl rfl | exact len_enc (fun _ => rfl))); (focus ((conv => lhs; rhs; whnf); simp only [List.length_map, List.length_append, List.length_cons, List.length_nil, List.length_take]; omega)); (focus (simp only [List.length_map, List.length_append, List.length_cons, List.length_nil, List.length_take]; omega))) | (refine s_app0R (r := (jOut (m.take (k + 1))).map encRange) ?_ ?_ ?_ ?_ (h := ?_); (focus (first | (rw [hsn]; simp; rfl) | with_reducible rfl | with_reducible exact List.nil_append _ | with_reducible exact (List.map_append ..).symm | (rw [take_snoc (by assumption), List.map_append]; rfl) | (rw [List.map_append]; rfl) | (simp; done))); (focus (first | exact len_none | exact len_one rfl | exact len_two rfl rfl | exact len_enc (fun _ => rfl))); (focus ((conv => lhs; rhs; whnf); simp only [List.length_map, List.length_append, List.length_cons, List.length_nil, List.length_take]; omega)); (focus (simp only [List.length_map, List.length_append, List.length_cons, List.length_nil, List.length_take]; omega))) | (refine p_app (r := (jOut (m.take (k + 1))).map encRange) ?_ ?_ ?_ ?_ (h := ?_); (focus (first | (rw [hsn]; simp; rfl) | with_reducible rfl | with_reducible exact List.nil_append _ | with_reducible exact (List.map_append ..).symm | (rw [take_snoc (by assumption), List.map_append]; rfl) | (rw [List.map_append]; rfl) | (simp; done))); (focus (first | exact len_none | exact len_one rfl | exact len_two rfl rfl | exact len_enc (fun _ => rfl))); (focus ((conv => lhs; rhs; whnf); simp only [List.length_map, List.length_append, List.length_cons, List.length_nil, List.length_take]; omega)); (focus (simp only [List.length_map, List.length_append, List.length_cons, List.length_nil, List.length_take]; omega))) | (refine p_app0R (r := (jOut (m.take (k + 1))).map encRange) ?_ ?_ ?_ ?_ (h := ?_); (focus (first | (rw [hsn]; simp; rfl) | with_reducible rfl | with_reducible exact List.nil_append _ | with_reducible exact (List.map_append ..).symm | (rw [take_snoc (by assumption), List.map_append]; rfl) | (rw [List.map_append]; rfl) | (simp; done))); (focus (first | exact len_none | exact len_one rfl | exact len_two rfl rfl | exact len_enc (fun _ => rfl))); (focus ((conv => lhs; rhs; whnf); simp only [List.length_map, List.length_append, List.length_cons, List.length_nil, List.length_take]; omega)); (focus (simp only [List.length_map, List.length_append, List.length_cons, List.length_nil, List.length_take]; omega))) | (refine go_ ?_; ((repeat' first | exact True.intro | refine Two.mk ?_ ?_); all_goals intros)) | fail "")
        all_goals (refine ⟨k + 1, ?_, ?_, ?_⟩; rotate_left 2; (exact lessA_); (focus (omega)); (focus (exact hkn)))
  · (repeat' first | (refine go_ ?_; ((repeat' first | exact True.intro | refine Two.mk ?_ ?_); all_goals intros)) | fail "")
    all_goals (refine ends_ (hr := ?_); rw [List.take_of_length_le (by omega), hmR])
end Go.Proofs.YtfdomanbdfekhaaGreat
