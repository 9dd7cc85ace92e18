/-
  The eye of frames, uniformly; its ranges. No condition.
-/
import Derived.Test.YthpophgcmgdpjaaGo
import Derived.Test.YthpophgcmgdpjaaEye
import Derived.Test.YthpophgcmgdpjaaAbsB
set_option linter.unusedVariables false
set_option linter.unusedSimpArgs false
set_option linter.unusedVariables false
namespace Go.Proofs.Ythpophgcmgdpjaa
set_option maxRecDepth 100000
attribute [local irreducible] Run RunL QStep GStep Fn Less PL FnM

/-- a number, when nothing is wrong so far -/
def numR (s : List UInt8) (e : Int) : Nat × List UInt8 × Int :=
  if ¬ e = 0 then (0, s, e) else if (varD s).2.2 = 0 then ((varD s).1, s.drop (varD s).2.1, 0) else (0, s, 4)
def takeR (n : Nat) (s : List UInt8) (e : Int) : List UInt8 × List UInt8 × Int :=
  if ¬ e = 0 then ([], s, e) else if s.length < n then ([], s, 4) else (s.take n, s.drop n, 0)
def failR (e c : Int) : Int := if e = 0 then c else e
def encEyeA (A : Nat) (s : List UInt8) (e : Int) : List V := [.ro (s.map encB), .lit (.int .i64 ((A : Int) - (s.length : Int))), .lit (.int .i64 e)]
theorem numR_facts (s : List UInt8) (e : Int) : (numR s e).2.1.length ≤ s.length ∧ (numR s e).1 ≤ 4611686018427387903 ∧ (¬ e = 0 → numR s e = (0, s, e)) ∧ (¬ (numR s e).2.2 = 0 → (numR s e).1 = 0) := by
  unfold numR
  by_cases he : e = 0
  · rw [if_neg (by omega)]
    generalize hv0 : varD s = v at *
    obtain ⟨n, k, c⟩ := v
    dsimp only
    rcases varD_ok hv0 with ⟨rfl, q1, q2, q3, q4⟩ | ⟨rfl, rfl, rfl⟩
    · rw [if_pos rfl]
      dsimp only
      rw [List.length_drop]
      exact ⟨by omega, by omega, fun h => absurd he h, fun h => absurd rfl h⟩
    · rw [if_neg (by simp)]
      exact ⟨Nat.le_refl _, by simp, fun h => absurd he h, fun _ => rfl⟩
  · rw [if_pos he]
    exact ⟨Nat.le_refl _, by simp, fun _ => rfl, fun _ => rfl⟩
theorem takeR_facts (n : Nat) (s : List UInt8) (e : Int) : (takeR n s e).2.1.length ≤ s.length ∧ (takeR n s e).1.length ≤ n ∧ (¬ e = 0 → takeR n s e = ([], s, e)) := by
  unfold takeR
  by_cases he : e = 0
  · rw [if_neg (by omega)]
    by_cases hv : s.length < n
    · rw [if_pos hv]
      exact ⟨Nat.le_refl _, by simp, fun h => absurd he h⟩
    · rw [if_neg hv]
      dsimp only
      rw [List.length_drop, List.length_take]
      exact ⟨by omega, by omega, fun h => absurd he h⟩
  · rw [if_pos he]
    exact ⟨Nat.le_refl _, by simp, fun _ => rfl⟩
theorem encEye_A {A : Nat} {s : List UInt8} {e : Int} (h : s.length ≤ A) : encEyeA A s e = encEye s (A - s.length) e := by
  unfold encEyeA encEye
  rw [show (A : Int) - (s.length : Int) = ((A - s.length : Nat) : Int) by omega]
theorem number_fnm (A : Nat) (s : List UInt8) (e : Int) (h : s.length ≤ A) (hA : A ≤ 1000000000000000) : FnM Try.prog 184 [.ptr 0 0 0 0] [(0, some (.box 267 (encEyeA A s e)))] 1 (.lit (.int .i64 ((numR s e).1 : Int))) [(0, some (.box 267 (encEyeA A (numR s e).2.1 (numR s e).2.2)))] 1 := by
  rw [encEye_A h, encEye_A (by have := (numR_facts s e).1; omega)]
  unfold numR
  by_cases he : e = 0
  · subst he
    rw [if_neg (by omega)]
    rcases hv : varD s with ⟨n, k, c⟩
    rcases varD_ok hv with ⟨rfl, q1, q2, q3, q4⟩ | ⟨rfl, rfl, rfl⟩
    · rw [if_pos rfl]
      have := number_ok s (A - s.length) (by omega) (by omega) hv
      dsimp only
      rw [List.length_drop, show A - (s.length - k) = A - s.length + k by omega]
      exact this
    · rw [if_neg (by simp)]
      exact number_short s (A - s.length) (by omega) hv
  · rw [if_pos he]
    exact number_err s (A - s.length) e he
theorem number_fnm2 (A : Nat) (s : List UInt8) (e : Int) (h : s.length ≤ A) (hA : A ≤ 1000000000000000) : FnM Try.prog 184 [.ptr 0 0 0 0] [(0, some (.box 267 [.ro (s.map encB), .lit (.int .i64 ((A : Int) - (s.length : Int))), .lit (.int .i64 e)]))] 1 (.lit (.int .i64 ((numR s e).1 : Int))) [(0, some (.box 267 [.ro ((numR s e).2.1.map encB), .lit (.int .i64 ((A : Int) - ((numR s e).2.1.length : Int))), .lit (.int .i64 (numR s e).2.2)]))] 2 :=
  fnm_ren (number_fnm A s e h hA) [(0, 0)] rfl rfl ⟨⟨rfl, _, rfl, rfl⟩, trivial⟩
theorem take_fnm (A n : Nat) (s : List UInt8) (e : Int) (h : s.length ≤ A) (hA : A ≤ 1000000000000000) : FnM Try.prog 186 [.ptr 0 0 0 0, .lit (.int .i64 n)] [(0, some (.box 267 (encEyeA A s e)))] 1 (.ro ((takeR n s e).1.map encB)) [(0, some (.box 267 (encEyeA A (takeR n s e).2.1 (takeR n s e).2.2)))] 1 := by
  rw [encEye_A h, encEye_A (by have := (takeR_facts n s e).1; omega)]
  unfold takeR
  by_cases he : e = 0
  · subst he
    rw [if_neg (by omega)]
    by_cases hn : s.length < n
    · rw [if_pos hn]
      exact take_short s (A - s.length) n hn
    · rw [if_neg hn]
      have := take_ok s (A - s.length) n (by omega) (by omega) (by omega)
      dsimp only
      rw [List.length_drop, show A - (s.length - n) = A - s.length + n by omega]
      exact this
  · rw [if_pos he]
    exact take_err s (A - s.length) n e he
theorem fail_fnm (A : Nat) (s : List UInt8) (e c : Int) (h : s.length ≤ A) : FnM Try.prog 187 [.ptr 0 0 0 0, .lit (.int .i64 c)] [(0, some (.box 267 (encEyeA A s e)))] 1 (.tup []) [(0, some (.box 267 (encEyeA A s (failR e c))))] 1 := by
  rw [encEye_A h, encEye_A h]
  unfold failR
  by_cases he : e = 0
  · subst he
    rw [if_pos rfl]
    exact fail_ok s _ c
  · rw [if_neg he]
    exact fail_err s _ e c he
/-- one range more: where it ends, all so far, and what is left -/
def rgIt (i : Nat) (hi : Int) (out : List DRange) (s : List UInt8) (e : Int) : Int × List DRange × List UInt8 × Int :=
  if i = 0 then (hi, out ++ [⟨hi - (numR s e).1, hi⟩], (numR s e).2.1, if (numR s e).2.2 = 0 ∧ hi - (numR s e).1 < 0 then 6 else (numR s e).2.2)
  else ((out.getD (i - 1) default).Lo - (numR s e).1 - 2, out ++ [⟨(out.getD (i - 1) default).Lo - (numR s e).1 - 2 - (numR (numR s e).2.1 (numR s e).2.2).1, (out.getD (i - 1) default).Lo - (numR s e).1 - 2⟩],
    (numR (numR s e).2.1 (numR s e).2.2).2.1, if (numR (numR s e).2.1 (numR s e).2.2).2.2 = 0 ∧ (out.getD (i - 1) default).Lo - (numR s e).1 - 2 - (numR (numR s e).2.1 (numR s e).2.2).1 < 0 then 6 else (numR (numR s e).2.1 (numR s e).2.2).2.2)
def rgRun : Nat → Nat → Int → List DRange → List UInt8 → Int → List DRange × List UInt8 × Int
  | 0, _, _, out, s, e => (out, s, e)
  | m + 1, i, hi, out, s, e => if ¬ e = 0 then (out, s, e) else rgRun m (i + 1) (rgIt i hi out s e).1 (rgIt i hi out s e).2.1 (rgIt i hi out s e).2.2.1 (rgIt i hi out s e).2.2.2
def rgGo (n : Nat) (hi : Int) (s : List UInt8) (e : Int) : List DRange × List UInt8 × Int :=
  if e = 0 ∧ 6 ≤ n then ([], s, 1) else rgRun (n + 1) 0 hi [] s e
/-- ranges, told one by one -/
def rgR (s : List UInt8) (e : Int) : List DRange × List UInt8 × Int :=
  rgGo (numR (numR s e).2.1 (numR s e).2.2).1 (numR s e).1 (numR (numR s e).2.1 (numR s e).2.2).2.1 (numR (numR s e).2.1 (numR s e).2.2).2.2
theorem rgRun_err {m i : Nat} {hi : Int} {out : List DRange} {s : List UInt8} {e : Int} (he : ¬ e = 0) : rgRun m i hi out s e = (out, s, e) := by
  cases m with
  | zero => rfl
  | succ m => unfold rgRun; rw [if_pos he]
theorem failR_of {e : Int} {p : Prop} [Decidable p] (h : p) : (if e = 0 ∧ p then (6 : Int) else e) = failR e 6 := by
  unfold failR
  by_cases he : e = 0
  · rw [if_pos ⟨he, h⟩, if_pos he]
  · rw [if_neg (fun x => he x.1), if_neg he]
theorem last_lo {out : List DRange} {r : DRange} {i : Nat} (h : i = out.length) : (out ++ [r]).getD (i + 1 - 1) default = r := by
  subst h
  rw [Nat.add_sub_cancel, List.getD_eq_getElem?_getD, List.getElem?_append_right (Nat.le_refl _), Nat.sub_self]; rfl
set_option maxHeartbeats 4000000 in
theorem ranges_fnm (A : Nat) (s : List UInt8) (h : s.length ≤ A) (hA : A ≤ 1000000000000000) : FnM Try.prog 185 [.ptr 0 0 0 0] [(0, some (.box 267 (encEyeA A s 0)))] 1 (.ro ((rgR s 0).1.map encRange)) [(0, some (.box 267 (encEyeA A (rgR s 0).2.1 (rgR s 0).2.2)))] 1 := by
  have c1 := number_fnm A s 0 h hA
  have f1 := numR_facts s 0
  unfold rgR
  generalize numR s 0 = r1 at *
  obtain ⟨hi, s1, e1⟩ := r1
  dsimp only at c1 f1 ⊢
  have c2 := number_fnm A s1 e1 (by omega) hA
  have f2 := numR_facts s1 e1
  generalize numR s1 e1 = r2 at *
  obtain ⟨n, s2, e2⟩ := r2
  dsimp only at c2 f2 ⊢
  have c3 := fail_fnm A s2 e2 1 (by omega)
  have hn0 : ¬ e2 = 0 → n = 0 := f2.2.2.2
  by_cases h6 : 6 ≤ n
  · have he2 : e2 = 0 := by omega
    subst he2
    rw [show rgGo n hi s2 0 = ([], s2, 1) from if_pos ⟨rfl, h6⟩]
    rw [show failR 0 1 = 1 from rfl] at c3
    refine fnm_of_run (by kernel_rfl) Try.func185 rfl (by kernel_rfl) (by rfl) ?_
    (repeat' first | (refine s_callM [0] (c1) (h := ?_)) | (refine s_callM0 [0] (c1) (h := ?_)) | (refine p_callM [0] (c1) (h := ?_)) | (refine s_callM [0] (c2) (h := ?_)) | (refine s_callM0 [0] (c2) (h := ?_)) | (refine p_callM [0] (c2) (h := ?_)) | (refine s_callM [0] (c3) (h := ?_)) | (refine s_callM0 [0] (c3) (h := ?_)) | (refine p_callM [0] (c3) (h := ?_)) | (refine go_ ?_; ((repeat' first | exact True.intro | refine Two.mk ?_ ?_); all_goals intros)) | fail "")
    refine r_for (fun _ : Unit => ⟨[(0, .ptr 0 0 0 0), (3, .lit (.int .i64 hi)), (4, .lit (.int .i64 n)), (5, .lit (.slice none 0 0)), (6, .lit (.int .i64 0))], [(0, some (.box 267 (encEyeA A s2 1)))], 1, Try.f185.ntmps⟩) (fun _ => True) (fun _ => 0) () trivial (by (exact lessA_)) ?_
    intro _ _
    (repeat' first | (refine go_ ?_; ((repeat' first | exact True.intro | refine Two.mk ?_ ?_); all_goals intros)) | fail "")
    all_goals (exact endmA_)
  rw [show rgGo n hi s2 e2 = rgRun (n + 1) 0 hi [] s2 e2 from if_neg (by omega)]
  have hs2 : s2.length ≤ A := by omega
  generalize hT : rgRun (n + 1) 0 hi [] s2 e2 = T
  have hhi : hi ≤ 4611686018427387903 := f1.2.1
  clear c3 f1 f2
  refine fnm_of_run (by kernel_rfl) Try.func185 rfl (by kernel_rfl) (by rfl) ?_
  (repeat' first | (refine s_callM [0] (c1) (h := ?_)) | (refine s_callM0 [0] (c1) (h := ?_)) | (refine p_callM [0] (c1) (h := ?_)) | (refine s_callM [0] (c2) (h := ?_)) | (refine s_callM0 [0] (c2) (h := ?_)) | (refine p_callM [0] (c2) (h := ?_)) | (refine go_ ?_; ((repeat' first | exact True.intro | refine Two.mk ?_ ?_); all_goals intros)) | fail "")
  clear c1 c2
  refine r_for (fun x : Nat × Int × List DRange × List UInt8 × Int => ⟨[(0, .ptr 0 0 0 0), (3, .lit (.int .i64 x.2.1)), (4, .lit (.int .i64 n)), (5, .own 1), (6, .lit (.int .i64 x.1))], [(0, some (.box 267 (encEyeA A x.2.2.2.1 x.2.2.2.2))), (1, some (.row 232 2 (x.2.2.1.map encRange)))], 2, Try.f185.ntmps⟩)
    (fun x => x.1 ≤ n + 1 ∧ rgRun (n + 1 - x.1) x.1 x.2.1 x.2.2.1 x.2.2.2.1 x.2.2.2.2 = T ∧ x.2.2.2.1.length ≤ A ∧ x.2.2.1.length = x.1 ∧ (x.1 = 0 → 0 ≤ x.2.1 ∧ x.2.1 ≤ 4611686018427387903) ∧ (0 < x.1 → x.2.2.2.2 = 0 → 0 ≤ (x.2.2.1.getD (x.1 - 1) default).Lo ∧ (x.2.2.1.getD (x.1 - 1) default).Lo ≤ 4611686018427387903))
    (fun x => n + 1 - x.1) (0, (hi : Int), [], s2, e2) ⟨Nat.zero_le _, hT, hs2, rfl, fun _ => by dsimp only; omega, fun h => by dsimp only at h; omega⟩ ((less_own (n := 1) (t := 5) 232 2 rfl rfl rfl).trans (by (exact lessA_))) ?_
  rintro ⟨i, hi, out, s, e⟩ ⟨q1, q2, q3, q4, q5, q6⟩
  dsimp only at q1 q2 q3 q4 q5 q6 ⊢
  by_cases he : e = 0
  · subst he
    by_cases hin : i ≤ n
    · have q6 := fun h => q6 h rfl
      have hm : n + 1 - i = (n + 1 - (i + 1)) + 1 := by omega
      rw [hm, show rgRun (n + 1 - (i + 1) + 1) i hi out s 0 = rgRun (n + 1 - (i + 1)) (i + 1) (rgIt i hi out s 0).1 (rgIt i hi out s 0).2.1 (rgIt i hi out s 0).2.2.1 (rgIt i hi out s 0).2.2.2 from if_neg (by omega)] at q2
      by_cases hi0 : i = 0
      · subst hi0
        have q5 := q5 rfl
        have g1 := number_fnm A s 0 q3 hA
        have f1 := numR_facts s 0
        rw [show rgIt 0 hi out s 0 = _ from if_pos rfl] at q2
        generalize numR s 0 = r at *
        obtain ⟨n1, s1, e1⟩ := r
        dsimp only at q2 g1 f1
        have g2 := fail_fnm A s1 e1 6 (by omega)
        by_cases hlo : hi - (n1 : Int) < 0
        · rw [show (if e1 = 0 ∧ hi - (n1 : Int) < 0 then (6 : Int) else e1) = failR e1 6 from failR_of hlo] at q2
          have hf : ¬ failR e1 6 = 0 := by unfold failR; split <;> simp_all
          generalize failR e1 6 = e2 at *
          (repeat' first | (refine s_callM [0] (g1) (h := ?_)) | (refine s_callM0 [0] (g1) (h := ?_)) | (refine p_callM [0] (g1) (h := ?_)) | (refine s_callM [0] (g2) (h := ?_)) | (refine s_callM0 [0] (g2) (h := ?_)) | (refine p_callM [0] (g2) (h := ?_)) | (refine s_app (r := (out ++ [DRange.mk (hi - (n1 : Int)) hi]).map encRange) ?_ ?_ ?_ ?_ (h := ?_); (focus (first | (rw [List.map_append]; rfl) | with_reducible rfl | with_reducible exact List.nil_append _ | with_reducible exact (List.map_append ..).symm | (rw [take_snoc (by assumption), List.map_append]; rfl) | (rw [List.map_append]; rfl) | (simp; done))); (focus (first | exact len_none | exact len_one rfl | exact len_two rfl rfl | exact len_enc (fun _ => rfl))); (focus ((conv => lhs; rhs; whnf); simp only [List.length_map, List.length_append, List.length_cons, List.length_nil, List.length_take]; omega)); (focus (simp only [List.length_map, List.length_append, List.length_cons, List.length_nil, List.length_take]; omega))) | (refine s_app0R (r := (out ++ [DRange.mk (hi - (n1 : Int)) hi]).map encRange) ?_ ?_ ?_ ?_ (h := ?_); (focus (first | (rw [List.map_append]; rfl) | with_reducible rfl | with_reducible exact List.nil_append _ | with_reducible exact (List.map_append ..).symm | (rw [take_snoc (by assumption), List.map_append]; rfl) | (rw [List.map_append]; rfl) | (simp; done))); (focus (first | exact len_none | exact len_one rfl | exact len_two rfl rfl | exact len_enc (fun _ => rfl))); (focus ((conv => lhs; rhs; whnf); simp only [List.length_map, List.length_append, List.length_cons, List.length_nil, List.length_take]; omega)); (focus (simp only [List.length_map, List.length_append, List.length_cons, List.length_nil, List.length_take]; omega))) | (refine p_app (r := (out ++ [DRange.mk (hi - (n1 : Int)) hi]).map encRange) ?_ ?_ ?_ ?_ (h := ?_); (focus (first | (rw [List.map_append]; rfl) | with_reducible rfl | with_reducible exact List.nil_append _ | with_reducible exact (List.map_append ..).symm | (rw [take_snoc (by assumption), List.map_append]; rfl) | (rw [List.map_append]; rfl) | (simp; done))); (focus (first | exact len_none | exact len_one rfl | exact len_two rfl rfl | exact len_enc (fun _ => rfl))); (focus ((conv => lhs; rhs; whnf); simp only [List.length_map, List.length_append, List.length_cons, List.length_nil, List.length_take]; omega)); (focus (simp only [List.length_map, List.length_append, List.length_cons, List.length_nil, List.length_take]; omega))) | (refine p_app0R (r := (out ++ [DRange.mk (hi - (n1 : Int)) hi]).map encRange) ?_ ?_ ?_ ?_ (h := ?_); (focus (first | (rw [List.map_append]; rfl) | with_reducible rfl | with_reducible exact List.nil_append _ | with_reducible exact (List.map_append ..).symm | (rw [take_snoc (by assumption), List.map_append]; rfl) | (rw [List.map_append]; rfl) | (simp; done))); (focus (first | exact len_none | exact len_one rfl | exact len_two rfl rfl | exact len_enc (fun _ => rfl))); (focus ((conv => lhs; rhs; whnf); simp only [List.length_map, List.length_append, List.length_cons, List.length_nil, List.length_take]; omega)); (focus (simp only [List.length_map, List.length_append, List.length_cons, List.length_nil, List.length_take]; omega))) | (refine go_ ?_; ((repeat' first | exact True.intro | refine Two.mk ?_ ?_); all_goals intros)) | fail "")
          all_goals first
            | (refine ⟨(0 + 1, hi, out ++ [DRange.mk (hi - (n1 : Int)) hi], s1, e2), ?_, ?_, ?_⟩; rotate_left 2; (exact lessA_); (focus (dsimp only; omega)); (focus (exact ⟨by omega, q2, by dsimp only; omega, by dsimp only; rw [List.length_append, q4]; rfl, fun h => (by simp at h), fun _ h => absurd h hf⟩)))
            | skip
        · rw [if_neg (fun h => hlo h.2)] at q2
          (repeat' first | (refine s_callM [0] (g1) (h := ?_)) | (refine s_callM0 [0] (g1) (h := ?_)) | (refine p_callM [0] (g1) (h := ?_)) | (refine s_callM [0] (g2) (h := ?_)) | (refine s_callM0 [0] (g2) (h := ?_)) | (refine p_callM [0] (g2) (h := ?_)) | (refine s_app (r := (out ++ [DRange.mk (hi - (n1 : Int)) hi]).map encRange) ?_ ?_ ?_ ?_ (h := ?_); (focus (first | (rw [List.map_append]; rfl) | with_reducible rfl | with_reducible exact List.nil_append _ | with_reducible exact (List.map_append ..).symm | (rw [take_snoc (by assumption), List.map_append]; rfl) | (rw [List.map_append]; rfl) | (simp; done))); (focus (first | exact len_none | exact len_one rfl | exact len_two rfl rfl | exact len_enc (fun _ => rfl))); (focus ((conv => lhs; rhs; whnf); simp only [List.length_map, List.length_append, List.length_cons, List.length_nil, List.length_take]; omega)); (focus (simp only [List.length_map, List.length_append, List.length_cons, List.length_nil, List.length_take]; omega))) | (refine s_app0R (r := (out ++ [DRange.mk (hi - (n1 : Int)) hi]).map encRange) ?_ ?_ ?_ ?_ (h := ?_); (focus (first | (rw [List.map_append]; rfl) | with_reducible rfl | with_reducible exact List.nil_append _ | with_reducible exact (List.map_append ..).symm | (rw [take_snoc (by assumption), List.map_append]; rfl) | (rw [List.map_append]; rfl) | (simp; done))); (focus (first | exact len_none | exact len_one rfl | exact len_two rfl rfl | exact len_enc (fun _ => rfl))); (focus ((conv => lhs; rhs; whnf); simp only [List.length_map, List.length_append, List.length_cons, List.length_nil, List.length_take]; omega)); (focus (simp only [List.length_map, List.length_append, List.length_cons, List.length_nil, List.length_take]; omega))) | (refine p_app (r := (out ++ [DRange.mk (hi - (n1 : Int)) hi]).map encRange) ?_ ?_ ?_ ?_ (h := ?_); (focus (first | (rw [List.map_append]; rfl) | with_reducible rfl | with_reducible exact List.nil_append _ | with_reducible exact (List.map_append ..).symm | (rw [take_snoc (by assumption), List.map_append]; rfl) | (rw [List.map_append]; rfl) | (simp; done))); (focus (first | exact len_none | exact len_one rfl | exact len_two rfl rfl | exact len_enc (fun _ => rfl))); (focus ((conv => lhs; rhs; whnf); simp only [List.length_map, List.length_append, List.length_cons, List.length_nil, List.length_take]; omega)); (focus (simp only [List.length_map, List.length_append, List.length_cons, List.length_nil, List.length_take]; omega))) | (refine p_app0R (r := (out ++ [DRange.mk (hi - (n1 : Int)) hi]).map encRange) ?_ ?_ ?_ ?_ (h := ?_); (focus (first | (rw [List.map_append]; rfl) | with_reducible rfl | with_reducible exact List.nil_append _ | with_reducible exact (List.map_append ..).symm | (rw [take_snoc (by assumption), List.map_append]; rfl) | (rw [List.map_append]; rfl) | (simp; done))); (focus (first | exact len_none | exact len_one rfl | exact len_two rfl rfl | exact len_enc (fun _ => rfl))); (focus ((conv => lhs; rhs; whnf); simp only [List.length_map, List.length_append, List.length_cons, List.length_nil, List.length_take]; omega)); (focus (simp only [List.length_map, List.length_append, List.length_cons, List.length_nil, List.length_take]; omega))) | (refine go_ ?_; ((repeat' first | exact True.intro | refine Two.mk ?_ ?_); all_goals intros)) | fail "")
          all_goals first
            | (refine ⟨(0 + 1, hi, out ++ [DRange.mk (hi - (n1 : Int)) hi], s1, e1), ?_, ?_, ?_⟩; rotate_left 2; (exact lessA_); (focus (dsimp only; omega)); (focus (exact ⟨by omega, q2, by dsimp only; omega, by dsimp only; rw [List.length_append, q4]; rfl, fun h => (by simp at h), fun _ _ => by dsimp only; rw [last_lo (by omega)]; dsimp only; omega⟩)))
            | skip
      · have q6 := q6 (by omega)
        have ei : (i : Int) - 1 = ((i - 1 : Nat) : Int) := by omega
        have g1 := number_fnm2 A s 0 q3 hA
        have f1 := numR_facts s 0
        rw [show rgIt i hi out s 0 = _ from if_neg hi0] at q2
        generalize numR s 0 = r at *
        obtain ⟨n1, s1, e1⟩ := r
        dsimp only at q2 g1 f1
        have g3 := number_fnm A s1 e1 (by omega) hA
        have f3 := numR_facts s1 e1
        generalize numR s1 e1 = r at *
        obtain ⟨n2, s2, e2⟩ := r
        dsimp only at q2 g3 f3
        have g2 := fail_fnm A s2 e2 6 (by omega)
        by_cases hlo : (out.getD (i - 1) default).Lo - (n1 : Int) - 2 - (n2 : Int) < 0
        · rw [show (if e2 = 0 ∧ (out.getD (i - 1) default).Lo - (n1 : Int) - 2 - (n2 : Int) < 0 then (6 : Int) else e2) = failR e2 6 from failR_of hlo] at q2
          have hf : ¬ failR e2 6 = 0 := by unfold failR; split <;> simp_all
          generalize failR e2 6 = e3 at *
          (repeat' first | (refine s_callM [0] (g1) (h := ?_)) | (refine s_callM0 [0] (g1) (h := ?_)) | (refine p_callM [0] (g1) (h := ?_)) | (refine s_callM [0] (g3) (h := ?_)) | (refine s_callM0 [0] (g3) (h := ?_)) | (refine p_callM [0] (g3) (h := ?_)) | (refine s_callM [0] (g2) (h := ?_)) | (refine s_callM0 [0] (g2) (h := ?_)) | (refine p_callM [0] (g2) (h := ?_)) | (refine s_app (r := (out ++ [DRange.mk ((out.getD (i - 1) default).Lo - (n1 : Int) - 2 - (n2 : Int)) ((out.getD (i - 1) default).Lo - (n1 : Int) - 2)]).map encRange) ?_ ?_ ?_ ?_ (h := ?_); (focus (first | (rw [List.map_append]; rfl) | with_reducible rfl | with_reducible exact List.nil_append _ | with_reducible exact (List.map_append ..).symm | (rw [take_snoc (by assumption), List.map_append]; rfl) | (rw [List.map_append]; rfl) | (simp; done))); (focus (first | exact len_none | exact len_one rfl | exact len_two rfl rfl | exact len_enc (fun _ => rfl))); (focus ((conv => lhs; rhs; whnf); simp only [List.length_map, List.length_append, List.length_cons, List.length_nil, List.length_take]; omega)); (focus (simp only [List.length_map, List.length_append, List.length_cons, List.length_nil, List.length_take]; omega))) | (refine s_app0R (r := (out ++ [DRange.mk ((out.getD (i - 1) default).Lo - (n1 : Int) - 2 - (n2 : Int)) ((out.getD (i - 1) default).Lo - (n1 : Int) - 2)]).map encRange) ?_ ?_ ?_ ?_ (h := ?_); (focus (first | (rw [List.map_append]; rfl) | with_reducible rfl | with_reducible exact List.nil_append _ | with_reducible exact (List.map_append ..).symm | (rw [take_snoc (by assumption), List.map_append]; rfl) | (rw [List.map_append]; rfl) | (simp; done))); (focus (first | exact len_none | exact len_one rfl | exact len_two rfl rfl | exact len_enc (fun _ => rfl))); (focus ((conv => lhs; rhs; whnf); simp only [List.length_map, List.length_append, List.length_cons, List.length_nil, List.length_take]; omega)); (focus (simp only [List.length_map, List.length_append, List.length_cons, List.length_nil, List.length_take]; omega))) | (refine p_app (r := (out ++ [DRange.mk ((out.getD (i - 1) default).Lo - (n1 : Int) - 2 - (n2 : Int)) ((out.getD (i - 1) default).Lo - (n1 : Int) - 2)]).map encRange) ?_ ?_ ?_ ?_ (h := ?_); (focus (first | (rw [List.map_append]; rfl) | with_reducible rfl | with_reducible exact List.nil_append _ | with_reducible exact (List.map_append ..).symm | (rw [take_snoc (by assumption), List.map_append]; rfl) | (rw [List.map_append]; rfl) | (simp; done))); (focus (first | exact len_none | exact len_one rfl | exact len_two rfl rfl | exact len_enc (fun _ => rfl))); (focus ((conv => lhs; rhs; whnf); simp only [List.length_map, List.length_append, List.length_cons, List.length_nil, List.length_take]; omega)); (focus (simp only [List.length_map, List.length_append, List.length_cons, List.length_nil, List.length_take]; omega))) | (refine p_app0R (r := (out ++ [DRange.mk ((out.getD (i - 1) default).Lo - (n1 : Int) - 2 - (n2 : Int)) ((out.getD (i - 1) default).Lo - (n1 : Int) - 2)]).map encRange) ?_ ?_ ?_ ?_ (h := ?_); (focus (first | (rw [List.map_append]; rfl) | with_reducible rfl | with_reducible exact List.nil_append _ | with_reducible exact (List.map_append ..).symm | (rw [take_snoc (by assumption), List.map_append]; rfl) | (rw [List.map_append]; rfl) | (simp; done))); (focus (first | exact len_none | exact len_one rfl | exact len_two rfl rfl | exact len_enc (fun _ => rfl))); (focus ((conv => lhs; rhs; whnf); simp only [List.length_map, List.length_append, List.length_cons, List.length_nil, List.length_take]; omega)); (focus (simp only [List.length_map, List.length_append, List.length_cons, List.length_nil, List.length_take]; omega))) | (refine go_ ?_; ((repeat' first | exact True.intro | refine Two.mk ?_ ?_); all_goals intros)) | fail "")
          all_goals first
            | (refine ⟨(i + 1, (out.getD (i - 1) default).Lo - (n1 : Int) - 2, out ++ [DRange.mk ((out.getD (i - 1) default).Lo - (n1 : Int) - 2 - (n2 : Int)) ((out.getD (i - 1) default).Lo - (n1 : Int) - 2)], s2, e3), ?_, ?_, ?_⟩; rotate_left 2; (exact lessA_); (focus (dsimp only; omega)); (focus (exact ⟨by omega, q2, by dsimp only; omega, by dsimp only; rw [List.length_append, q4]; rfl, fun h => (by simp at h), fun _ h => absurd h hf⟩)))
            | skip
        · rw [if_neg (fun h => hlo h.2)] at q2
          (repeat' first | (refine s_callM [0] (g1) (h := ?_)) | (refine s_callM0 [0] (g1) (h := ?_)) | (refine p_callM [0] (g1) (h := ?_)) | (refine s_callM [0] (g3) (h := ?_)) | (refine s_callM0 [0] (g3) (h := ?_)) | (refine p_callM [0] (g3) (h := ?_)) | (refine s_callM [0] (g2) (h := ?_)) | (refine s_callM0 [0] (g2) (h := ?_)) | (refine p_callM [0] (g2) (h := ?_)) | (refine s_app (r := (out ++ [DRange.mk ((out.getD (i - 1) default).Lo - (n1 : Int) - 2 - (n2 : Int)) ((out.getD (i - 1) default).Lo - (n1 : Int) - 2)]).map encRange) ?_ ?_ ?_ ?_ (h := ?_); (focus (first | (rw [List.map_append]; rfl) | with_reducible rfl | with_reducible exact List.nil_append _ | with_reducible exact (List.map_append ..).symm | (rw [take_snoc (by assumption), List.map_append]; rfl) | (rw [List.map_append]; rfl) | (simp; done))); (focus (first | exact len_none | exact len_one rfl | exact len_two rfl rfl | exact len_enc (fun _ => rfl))); (focus ((conv => lhs; rhs; whnf); simp only [List.length_map, List.length_append, List.length_cons, List.length_nil, List.length_take]; omega)); (focus (simp only [List.length_map, List.length_append, List.length_cons, List.length_nil, List.length_take]; omega))) | (refine s_app0R (r := (out ++ [DRange.mk ((out.getD (i - 1) default).Lo - (n1 : Int) - 2 - (n2 : Int)) ((out.getD (i - 1) default).Lo - (n1 : Int) - 2)]).map encRange) ?_ ?_ ?_ ?_ (h := ?_); (focus (first | (rw [List.map_append]; rfl) | with_reducible rfl | with_reducible exact List.nil_append _ | with_reducible exact (List.map_append ..).symm | (rw [take_snoc (by assumption), List.map_append]; rfl) | (rw [List.map_append]; rfl) | (simp; done))); (focus (first | exact len_none | exact len_one rfl | exact len_two rfl rfl | exact len_enc (fun _ => rfl))); (focus ((conv => lhs; rhs; whnf); simp only [List.length_map, List.length_append, List.length_cons, List.length_nil, List.length_take]; omega)); (focus (simp only [List.length_map, List.length_append, List.length_cons, List.length_nil, List.length_take]; omega))) | (refine p_app (r := (out ++ [DRange.mk ((out.getD (i - 1) default).Lo - (n1 : Int) - 2 - (n2 : Int)) ((out.getD (i - 1) default).Lo - (n1 : Int) - 2)]).map encRange) ?_ ?_ ?_ ?_ (h := ?_); (focus (first | (rw [List.map_append]; rfl) | with_reducible rfl | with_reducible exact List.nil_append _ | with_reducible exact (List.map_append ..).symm | (rw [take_snoc (by assumption), List.map_append]; rfl) | (rw [List.map_append]; rfl) | (simp; done))); (focus (first | exact len_none | exact len_one rfl | exact len_two rfl rfl | exact len_enc (fun _ => rfl))); (focus ((conv => lhs; rhs; whnf); simp only [List.length_map, List.length_append, List.length_cons, List.length_nil, List.length_take]; omega)); (focus (simp only [List.length_map, List.length_append, List.length_cons, List.length_nil, List.length_take]; omega))) | (refine p_app0R (r := (out ++ [DRange.mk ((out.getD (i - 1) default).Lo - (n1 : Int) - 2 - (n2 : Int)) ((out.getD (i - 1) default).Lo - (n1 : Int) - 2)]).map encRange) ?_ ?_ ?_ ?_ (h := ?_); (focus (first | (rw [List.map_append]; rfl) | with_reducible rfl | with_reducible exact List.nil_append _ | with_reducible exact (List.map_append ..).symm | (rw [take_snoc (by assumption), List.map_append]; rfl) | (rw [List.map_append]; rfl) | (simp; done))); (focus (first | exact len_none | exact len_one rfl | exact len_two rfl rfl | exact len_enc (fun _ => rfl))); (focus ((conv => lhs; rhs; whnf); simp only [List.length_map, List.length_append, List.length_cons, List.length_nil, List.length_take]; omega)); (focus (simp only [List.length_map, List.length_append, List.length_cons, List.length_nil, List.length_take]; omega))) | (refine go_ ?_; ((repeat' first | exact True.intro | refine Two.mk ?_ ?_); all_goals intros)) | fail "")
          all_goals first
            | (refine ⟨(i + 1, (out.getD (i - 1) default).Lo - (n1 : Int) - 2, out ++ [DRange.mk ((out.getD (i - 1) default).Lo - (n1 : Int) - 2 - (n2 : Int)) ((out.getD (i - 1) default).Lo - (n1 : Int) - 2)], s2, e2), ?_, ?_, ?_⟩; rotate_left 2; (exact lessA_); (focus (dsimp only; omega)); (focus (exact ⟨by omega, q2, by dsimp only; omega, by dsimp only; rw [List.length_append, q4]; rfl, fun h => (by simp at h), fun _ _ => by dsimp only; rw [last_lo (by omega)]; dsimp only; omega⟩)))
            | skip
    · rw [show n + 1 - i = 0 by omega] at q2
      rw [show rgRun 0 i hi out s 0 = (out, s, 0) from rfl] at q2
      subst q2
      (repeat' first | (refine go_ ?_; ((repeat' first | exact True.intro | refine Two.mk ?_ ?_); all_goals intros)) | fail "")
      all_goals first
        | (exact endmA_)
        | skip
  · rw [rgRun_err he] at q2
    subst q2
    (repeat' first | (refine go_ ?_; ((repeat' first | exact True.intro | refine Two.mk ?_ ?_); all_goals intros)) | fail "")
    all_goals first
      | (exact endmA_)
      | skip
end Go.Proofs.Ythpophgcmgdpjaa
