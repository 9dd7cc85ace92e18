/-
  frame.All and the reference's FramesOf: one answer. No condition.
-/
import Derived.Test.YthpophgcmgdpjaaGo
import Derived.Test.YthpophgcmgdpjaaFrOf
import Derived.Test.YthpophgcmgdpjaaFrSame
import Derived.Test.YthpophgcmgdpjaaFrSm
set_option linter.unusedVariables false
set_option linter.unusedSimpArgs false
set_option linter.unusedVariables false
namespace Go.Proofs.Ythpophgcmgdpjaa
set_option maxRecDepth 100000
attribute [local irreducible] Run RunL QStep GStep Fn Less PL FnM

theorem sRg_len {z : FS} (h : z.2.2 = 0) : (sRg z).2.1.length ≤ z.2.1.length := by
  unfold sRg; rw [h]; exact (rgR_len (Nat.le_refl _)).1
theorem opt_len {A : Nat} {f : FS → FS} {z : FS} {b : Bool} (h : z.2.1.length ≤ A) (hf : (f z).2.1.length ≤ z.2.1.length) : (optS b f z).2.1.length ≤ A := by
  unfold optS; split
  · omega
  · exact h
theorem seq_len {A : Nat} (s : List UInt8) {z : FS} (h : z.2.1.length ≤ A) : (seqS s z).2.1.length ≤ A := by
  unfold seqS
  have n := fun z : FS => (numR_facts z.2.1 z.2.2).1
  have h1 : (optS (hasI s 105) sId z).2.1.length ≤ A := opt_len h (n z)
  have h2 : (optS (hasI s 111) sOf (optS (hasI s 105) sId z)).2.1.length ≤ A := opt_len h1 (n _)
  have h3 : (wcS (hasI s 119) (hasI s 99 || hasI s 119) (optS (hasI s 111) sOf (optS (hasI s 105) sId z))).2.1.length ≤ A := by
    unfold wcS
    split
    · exact Nat.le_trans (takeR_facts 8 _ _).1 h2
    · exact opt_len h2 (n _)
  exact opt_len h3 (data_len _).2
theorem fin_used {A : Nat} {z : FS} (h : z.2.1.length ≤ A) : ((frFin A z).2.2 = 0 → 0 ≤ (frFin A z).2.1 ∧ (frFin A z).2.1 ≤ A) := by
  intro he
  unfold frFin at *
  split at he
  · contradiction
  · rename_i h1
    rw [if_neg h1]
    split at he
    · contradiction
    · rename_i h2
      rw [if_neg h2]
      dsimp only
      omega
theorem frD_used {l : List UInt8} (he : (frD l).2.2 = 0) : 0 ≤ (frD l).2.1 ∧ (frD l).2.1 ≤ (l.length : Int) := by
  have f := numR_facts l 0
  unfold frD frHead at *
  split at he
  · contradiction
  · rename_i h1
    rw [if_neg h1]
    split at he
    · cases he
    · rename_i h2
      rw [if_neg h2]
      unfold frBody at *
      generalize (if (numR l 0).1 = 14 ∨ (numR l 0).1 = 15 then (8 : Int) else ((numR l 0).1 : Int)) = K at *
      generalize decide ((numR l 0).1 = 15) = fin at *
      by_cases hk : kOk K = false
      · rw [if_pos hk] at he; cases he
      · rw [if_neg hk] at he ⊢
        refine fin_used ?_ he
        refine seq_len _ ?_
        by_cases h2 : K = 2
        · rw [if_pos h2]; exact Nat.le_trans (sRg_len rfl) f.1
        · rw [if_neg h2]; exact f.1
/-- P4.5 -/
def alRun : Nat → List DFrame → List UInt8 → List DFrame × Int
  | 0, out, s => if s.length = 0 then (out, 0) else ([], 8)
  | m + 1, out, s => if s.length = 0 then (out, 0) else if ¬ (frD s).2.2 = 0 then ([], (frD s).2.2) else alRun m (out ++ [(frD s).1]) (s.drop (frD s).2.1.toNat)
def alD (l : List UInt8) : List DFrame × Int := alRun 12 [] l
def FSmall (f : DFrame) : Prop := f.Ranges.length ≤ 6 ∧ f.Data.length ≤ 120
theorem alRun_small {m : Nat} : ∀ {out : List DFrame} {s : List UInt8}, (∀ f, f ∈ out → FSmall f) → out.length + m ≤ 12 → (∀ f, f ∈ (alRun m out s).1 → FSmall f) ∧ (alRun m out s).1.length ≤ 12 := by
  induction m with
  | zero =>
    intro out s h hl
    unfold alRun
    split
    · exact ⟨h, by dsimp only; omega⟩
    · exact ⟨fun f hf => (by cases hf), by simp⟩
  | succ m ih =>
    intro out s h hl
    unfold alRun
    split
    · exact ⟨h, by dsimp only; omega⟩
    · split
      · exact ⟨fun f hf => (by cases hf), by simp⟩
      · refine ih (fun f hf => ?_) (by rw [List.length_append]; simp; omega)
        rcases List.mem_append.1 hf with hf | hf
        · exact h f hf
        · rw [List.mem_singleton.1 hf]; exact frD_small s
def encAl (r : List DFrame × Int) : V := .tup [.ro (r.1.map encFrame), .lit (.int .i64 r.2)]
set_option maxHeartbeats 2000000 in
theorem all_fn (l : List UInt8) (hl : l.length ≤ 1000000000000000) : Fn Try.prog 108 [.ro (l.map encB)] (encAl (alD l)) := by
  unfold alD
  generalize hR : alRun 12 [] l = R
  refine fn_of_run (by kernel_rfl) Try.func108 rfl (by kernel_rfl) ?_
  (repeat' first | (refine go_ ?_; ((repeat' first | exact True.intro | refine Two.mk ?_ ?_); all_goals intros)) | fail "")
  refine r_for (fun x : Nat × List DFrame × List UInt8 => ⟨[(0, .ro (x.2.2.map encB)), (4, .own 0)], [(0, some (.row 163 7 (x.2.1.map encFrame)))], 1, Try.f108.ntmps⟩)
    (fun x => x.2.1.length + x.1 = 12 ∧ alRun x.1 x.2.1 x.2.2 = R ∧ x.2.2.length ≤ l.length) (fun x => x.1) (12, [], l) ⟨rfl, hR, Nat.le_refl _⟩ ((less_own (n := 0) (t := 4) 163 7 rfl rfl rfl).trans less_to) ?_
  rintro ⟨m, out, s⟩ ⟨q1, q2, q3⟩
  dsimp only at q1 q2 q3 ⊢
  by_cases h0 : s.length = 0
  · rw [show alRun m out s = (out, 0) by cases m <;> exact if_pos h0] at q2
    subst q2
    (repeat' first | (refine go_ ?_; ((repeat' first | exact True.intro | refine Two.mk ?_ ?_); all_goals intros)) | fail "")
    all_goals first
      | (exact endwA_)
      | skip
  · cases m with
    | zero =>
      rw [show alRun 0 out s = ([], 8) from if_neg h0] at q2
      subst q2
      (repeat' first | (refine go_ ?_; ((repeat' first | exact True.intro | refine Two.mk ?_ ?_); all_goals intros)) | fail "")
      all_goals first
        | (exact endwA_)
        | skip
    | succ m =>
      rw [show alRun (m + 1) out s = _ from if_neg h0] at q2
      have h1 := frameDecode_fn s (by omega)
      have hu := @frD_used s
      generalize frD s = r at *
      obtain ⟨f, n, e⟩ := r
      unfold encFr at h1
      dsimp only at h1 hu q2
      by_cases he : e = 0
      · rw [if_neg (by omega)] at q2
        obtain ⟨u1, u2⟩ := hu he
        obtain ⟨k, rfl⟩ := Int.eq_ofNat_of_zero_le u1
        rw [Int.toNat_natCast] at q2
        have hdl : (s.drop k).length = s.length - k := List.length_drop
        have et : (s.take s.length).drop k = s.drop k := by rw [List.take_length]
        (repeat' first | (refine s_call (h1) (h := ?_)) | (refine p_call (h1) (h := ?_)) | (refine s_app (r := (out ++ [f]).map encFrame) ?_ ?_ ?_ ?_ (h := ?_); (focus (first | (rw [List.map_append]; rfl) | with_reducible rfl | with_reducible exact List.nil_append _ | with_reducible exact (List.map_append ..).symm | (rw [take_snoc (by assumption), List.map_append]; rfl) | (rw [List.map_append]; rfl) | (simp; done))); (focus (first | exact len_none | exact len_one rfl | exact len_two rfl rfl | exact len_enc (fun _ => rfl))); (focus ((conv => lhs; rhs; whnf); simp only [List.length_map, List.length_append, List.length_cons, List.length_nil, List.length_take]; omega)); (focus (simp only [List.length_map, List.length_append, List.length_cons, List.length_nil, List.length_take]; omega))) | (refine s_app0R (r := (out ++ [f]).map encFrame) ?_ ?_ ?_ ?_ (h := ?_); (focus (first | (rw [List.map_append]; rfl) | with_reducible rfl | with_reducible exact List.nil_append _ | with_reducible exact (List.map_append ..).symm | (rw [take_snoc (by assumption), List.map_append]; rfl) | (rw [List.map_append]; rfl) | (simp; done))); (focus (first | exact len_none | exact len_one rfl | exact len_two rfl rfl | exact len_enc (fun _ => rfl))); (focus ((conv => lhs; rhs; whnf); simp only [List.length_map, List.length_append, List.length_cons, List.length_nil, List.length_take]; omega)); (focus (simp only [List.length_map, List.length_append, List.length_cons, List.length_nil, List.length_take]; omega))) | (refine p_app (r := (out ++ [f]).map encFrame) ?_ ?_ ?_ ?_ (h := ?_); (focus (first | (rw [List.map_append]; rfl) | with_reducible rfl | with_reducible exact List.nil_append _ | with_reducible exact (List.map_append ..).symm | (rw [take_snoc (by assumption), List.map_append]; rfl) | (rw [List.map_append]; rfl) | (simp; done))); (focus (first | exact len_none | exact len_one rfl | exact len_two rfl rfl | exact len_enc (fun _ => rfl))); (focus ((conv => lhs; rhs; whnf); simp only [List.length_map, List.length_append, List.length_cons, List.length_nil, List.length_take]; omega)); (focus (simp only [List.length_map, List.length_append, List.length_cons, List.length_nil, List.length_take]; omega))) | (refine p_app0R (r := (out ++ [f]).map encFrame) ?_ ?_ ?_ ?_ (h := ?_); (focus (first | (rw [List.map_append]; rfl) | with_reducible rfl | with_reducible exact List.nil_append _ | with_reducible exact (List.map_append ..).symm | (rw [take_snoc (by assumption), List.map_append]; rfl) | (rw [List.map_append]; rfl) | (simp; done))); (focus (first | exact len_none | exact len_one rfl | exact len_two rfl rfl | exact len_enc (fun _ => rfl))); (focus ((conv => lhs; rhs; whnf); simp only [List.length_map, List.length_append, List.length_cons, List.length_nil, List.length_take]; omega)); (focus (simp only [List.length_map, List.length_append, List.length_cons, List.length_nil, List.length_take]; omega))) | (refine s_slice (r := s.drop k) (k) (s.length) ?_ ?_ ?_ ?_ ?_ (h := ?_); (focus (first | rfl | (simp only [Option.getD_some, Option.getD_none, List.length_map]; omega))); (focus (first | rfl | (simp only [Option.getD_some, Option.getD_none, List.length_map]; omega))); (focus omega); (focus omega); (focus (first | with_reducible rfl | assumption | (simp; done)))) | (refine p_slice (r := s.drop k) (k) (s.length) ?_ ?_ ?_ ?_ ?_ (h := ?_); (focus (first | rfl | (simp only [Option.getD_some, Option.getD_none, List.length_map]; omega))); (focus (first | rfl | (simp only [Option.getD_some, Option.getD_none, List.length_map]; omega))); (focus omega); (focus omega); (focus (first | with_reducible rfl | assumption | (simp; done)))) | (refine s_slice_str (r := s.drop k) (k) (s.length) ?_ ?_ ?_ ?_ ?_ (h := ?_); (focus (first | rfl | (simp only [Option.getD_some, Option.getD_none, List.length_map]; omega))); (focus (first | rfl | (simp only [Option.getD_some, Option.getD_none, List.length_map]; omega))); (focus omega); (focus omega); (focus (first | with_reducible rfl | assumption | (simp; done)))) | (refine p_slice_str (r := s.drop k) (k) (s.length) ?_ ?_ ?_ ?_ ?_ (h := ?_); (focus (first | rfl | (simp only [Option.getD_some, Option.getD_none, List.length_map]; omega))); (focus (first | rfl | (simp only [Option.getD_some, Option.getD_none, List.length_map]; omega))); (focus omega); (focus omega); (focus (first | with_reducible rfl | assumption | (simp; done)))) | (refine s_sliceO (r := s.drop k) (k) (s.length) ?_ ?_ ?_ ?_ ?_ (h := ?_); (focus (first | rfl | (simp only [Option.getD_some, Option.getD_none, List.length_map]; omega))); (focus (first | rfl | (simp only [Option.getD_some, Option.getD_none, List.length_map]; omega))); (focus omega); (focus omega); (focus (first | with_reducible rfl | assumption | (simp; done)))) | (refine s_sliceM (r := s.drop k) (k) (s.length) ?_ ?_ ?_ ?_ ?_ (h := ?_); (focus (first | rfl | (simp only [Option.getD_some, Option.getD_none, List.length_map]; omega))); (focus (first | rfl | (simp only [Option.getD_some, Option.getD_none, List.length_map]; omega))); (focus omega); (focus omega); (focus (first | with_reducible rfl | assumption | (simp; done)))) | (refine go_ ?_; ((repeat' first | exact True.intro | refine Two.mk ?_ ?_); all_goals intros)) | fail "")
        all_goals first
          | (refine ⟨(m, out ++ [f], s.drop k), ?_, ?_, ?_⟩; rotate_left 2; (exact lessA_); (focus (dsimp only; omega)); (focus (exact ⟨by dsimp only; rw [List.length_append]; simp; omega, q2, by dsimp only; omega⟩)))
          | skip
      · rw [if_pos he] at q2
        subst q2
        (repeat' first | (refine s_call (h1) (h := ?_)) | (refine p_call (h1) (h := ?_)) | (refine go_ ?_; ((repeat' first | exact True.intro | refine Two.mk ?_ ?_); all_goals intros)) | fail "")
        all_goals first
          | (exact endwA_)
          | skip
set_option maxHeartbeats 2000000 in
theorem framesOf_fn (l : List UInt8) (hl : l.length ≤ 1000000000000000) : Fn Try.prog 112 [.lit (.string (strB l))] (encAl (alD l)) := by
  unfold alD
  generalize hR : alRun 12 [] l = R
  refine fn_of_run (by kernel_rfl) Try.func112 rfl (by kernel_rfl) ?_
  (repeat' first | (refine go_ ?_; ((repeat' first | exact True.intro | refine Two.mk ?_ ?_); all_goals intros)) | fail "")
  refine r_for (fun x : Nat × List DFrame × List UInt8 => ⟨[(0, .lit (.string (strB x.2.2))), (4, .own 0)], [(0, some (.row 163 7 (x.2.1.map encFrame)))], 1, Try.f112.ntmps⟩)
    (fun x => x.2.1.length + x.1 = 12 ∧ alRun x.1 x.2.1 x.2.2 = R ∧ x.2.2.length ≤ l.length) (fun x => x.1) (12, [], l) ⟨rfl, hR, Nat.le_refl _⟩ ((less_own (n := 0) (t := 4) 163 7 rfl rfl rfl).trans less_to) ?_
  rintro ⟨m, out, s⟩ ⟨q1, q2, q3⟩
  dsimp only at q1 q2 q3 ⊢
  by_cases h0 : s.length = 0
  · rw [show alRun m out s = (out, 0) by cases m <;> exact if_pos h0] at q2
    subst q2
    have : s = [] := List.length_eq_zero_iff.1 h0
    subst this
    (repeat' first | (refine go_ ?_; ((repeat' first | exact True.intro | refine Two.mk ?_ ?_); all_goals intros)) | fail "")
    all_goals first
      | (exact endwA_)
      | skip
  · have hne : ¬ s = [] := fun e => h0 (by rw [e]; rfl)
    cases m with
    | zero =>
      rw [show alRun 0 out s = ([], 8) from if_neg h0] at q2
      subst q2
      (repeat' first | (refine go_ ?_; ((repeat' first | exact True.intro | refine Two.mk ?_ ?_); all_goals intros)) | fail "")
      all_goals first
        | (exact endwA_)
        | skip
    | succ m =>
      rw [show alRun (m + 1) out s = _ from if_neg h0] at q2
      have h1 := frameOf_fn s (by omega)
      have hu := @frD_used s
      generalize frD s = r at *
      obtain ⟨f, n, e⟩ := r
      unfold encFr at h1
      dsimp only at h1 hu q2
      by_cases he : e = 0
      · rw [if_neg (by omega)] at q2
        obtain ⟨u1, u2⟩ := hu he
        obtain ⟨k, rfl⟩ := Int.eq_ofNat_of_zero_le u1
        rw [Int.toNat_natCast] at q2
        have hdl : (s.drop k).length = s.length - k := List.length_drop
        have et : (s.take s.length).drop k = s.drop k := by rw [List.take_length]
        (repeat' first | (refine s_call (h1) (h := ?_)) | (refine p_call (h1) (h := ?_)) | (refine s_app (r := (out ++ [f]).map encFrame) ?_ ?_ ?_ ?_ (h := ?_); (focus (first | (rw [List.map_append]; rfl) | with_reducible rfl | with_reducible exact List.nil_append _ | with_reducible exact (List.map_append ..).symm | (rw [take_snoc (by assumption), List.map_append]; rfl) | (rw [List.map_append]; rfl) | (simp; done))); (focus (first | exact len_none | exact len_one rfl | exact len_two rfl rfl | exact len_enc (fun _ => rfl))); (focus ((conv => lhs; rhs; whnf); simp only [List.length_map, List.length_append, List.length_cons, List.length_nil, List.length_take]; omega)); (focus (simp only [List.length_map, List.length_append, List.length_cons, List.length_nil, List.length_take]; omega))) | (refine s_app0R (r := (out ++ [f]).map encFrame) ?_ ?_ ?_ ?_ (h := ?_); (focus (first | (rw [List.map_append]; rfl) | with_reducible rfl | with_reducible exact List.nil_append _ | with_reducible exact (List.map_append ..).symm | (rw [take_snoc (by assumption), List.map_append]; rfl) | (rw [List.map_append]; rfl) | (simp; done))); (focus (first | exact len_none | exact len_one rfl | exact len_two rfl rfl | exact len_enc (fun _ => rfl))); (focus ((conv => lhs; rhs; whnf); simp only [List.length_map, List.length_append, List.length_cons, List.length_nil, List.length_take]; omega)); (focus (simp only [List.length_map, List.length_append, List.length_cons, List.length_nil, List.length_take]; omega))) | (refine p_app (r := (out ++ [f]).map encFrame) ?_ ?_ ?_ ?_ (h := ?_); (focus (first | (rw [List.map_append]; rfl) | with_reducible rfl | with_reducible exact List.nil_append _ | with_reducible exact (List.map_append ..).symm | (rw [take_snoc (by assumption), List.map_append]; rfl) | (rw [List.map_append]; rfl) | (simp; done))); (focus (first | exact len_none | exact len_one rfl | exact len_two rfl rfl | exact len_enc (fun _ => rfl))); (focus ((conv => lhs; rhs; whnf); simp only [List.length_map, List.length_append, List.length_cons, List.length_nil, List.length_take]; omega)); (focus (simp only [List.length_map, List.length_append, List.length_cons, List.length_nil, List.length_take]; omega))) | (refine p_app0R (r := (out ++ [f]).map encFrame) ?_ ?_ ?_ ?_ (h := ?_); (focus (first | (rw [List.map_append]; rfl) | with_reducible rfl | with_reducible exact List.nil_append _ | with_reducible exact (List.map_append ..).symm | (rw [take_snoc (by assumption), List.map_append]; rfl) | (rw [List.map_append]; rfl) | (simp; done))); (focus (first | exact len_none | exact len_one rfl | exact len_two rfl rfl | exact len_enc (fun _ => rfl))); (focus ((conv => lhs; rhs; whnf); simp only [List.length_map, List.length_append, List.length_cons, List.length_nil, List.length_take]; omega)); (focus (simp only [List.length_map, List.length_append, List.length_cons, List.length_nil, List.length_take]; omega))) | (refine s_slice (r := s.drop k) (k) (s.length) ?_ ?_ ?_ ?_ ?_ (h := ?_); (focus (first | rfl | (simp only [Option.getD_some, Option.getD_none, List.length_map]; omega))); (focus (first | rfl | (simp only [Option.getD_some, Option.getD_none, List.length_map]; omega))); (focus omega); (focus omega); (focus (first | with_reducible rfl | assumption | (simp; done)))) | (refine p_slice (r := s.drop k) (k) (s.length) ?_ ?_ ?_ ?_ ?_ (h := ?_); (focus (first | rfl | (simp only [Option.getD_some, Option.getD_none, List.length_map]; omega))); (focus (first | rfl | (simp only [Option.getD_some, Option.getD_none, List.length_map]; omega))); (focus omega); (focus omega); (focus (first | with_reducible rfl | assumption | (simp; done)))) | (refine s_slice_str (r := s.drop k) (k) (s.length) ?_ ?_ ?_ ?_ ?_ (h := ?_); (focus (first | rfl | (simp only [Option.getD_some, Option.getD_none, List.length_map]; omega))); (focus (first | rfl | (simp only [Option.getD_some, Option.getD_none, List.length_map]; omega))); (focus omega); (focus omega); (focus (first | with_reducible rfl | assumption | (simp; done)))) | (refine p_slice_str (r := s.drop k) (k) (s.length) ?_ ?_ ?_ ?_ ?_ (h := ?_); (focus (first | rfl | (simp only [Option.getD_some, Option.getD_none, List.length_map]; omega))); (focus (first | rfl | (simp only [Option.getD_some, Option.getD_none, List.length_map]; omega))); (focus omega); (focus omega); (focus (first | with_reducible rfl | assumption | (simp; done)))) | (refine s_sliceO (r := s.drop k) (k) (s.length) ?_ ?_ ?_ ?_ ?_ (h := ?_); (focus (first | rfl | (simp only [Option.getD_some, Option.getD_none, List.length_map]; omega))); (focus (first | rfl | (simp only [Option.getD_some, Option.getD_none, List.length_map]; omega))); (focus omega); (focus omega); (focus (first | with_reducible rfl | assumption | (simp; done)))) | (refine s_sliceM (r := s.drop k) (k) (s.length) ?_ ?_ ?_ ?_ ?_ (h := ?_); (focus (first | rfl | (simp only [Option.getD_some, Option.getD_none, List.length_map]; omega))); (focus (first | rfl | (simp only [Option.getD_some, Option.getD_none, List.length_map]; omega))); (focus omega); (focus omega); (focus (first | with_reducible rfl | assumption | (simp; done)))) | (refine go_ ?_; ((repeat' first | exact True.intro | refine Two.mk ?_ ?_); all_goals intros)) | fail "")
        all_goals first
          | (refine ⟨(m, out ++ [f], s.drop k), ?_, ?_, ?_⟩; rotate_left 2; (exact lessA_); (focus (dsimp only; omega)); (focus (exact ⟨by dsimp only; rw [List.length_append]; simp; omega, q2, by dsimp only; omega⟩)))
          | skip
      · rw [if_pos he] at q2
        subst q2
        (repeat' first | (refine s_call (h1) (h := ?_)) | (refine p_call (h1) (h := ?_)) | (refine go_ ?_; ((repeat' first | exact True.intro | refine Two.mk ?_ ?_); all_goals intros)) | fail "")
        all_goals first
          | (exact endwA_)
          | skip
theorem sameFrames_fn (l : List DFrame) (hs : ∀ f, f ∈ l → FSmall f) (hl : l.length ≤ 12) : Fn Try.prog 48 [.ro (l.map encFrame), .ro (l.map encFrame)] (.lit (.bool true)) := by
  refine fn_of_run (by kernel_rfl) Try.func48 rfl (by kernel_rfl) ?_
  (repeat' first | (refine go_ ?_; ((repeat' first | exact True.intro | refine Two.mk ?_ ?_); all_goals intros)) | fail "")
  refine r_for (fun k : Nat => ⟨[(0, .ro (l.map encFrame)), (1, .ro (l.map encFrame)), (5, .lit (.bool true)), (6, .lit (.int .i64 k))], [], 0, Try.f48.ntmps⟩)
    (fun k => k ≤ l.length) (fun k => l.length - k) 0 (Nat.zero_le _) less_to ?_
  intro k hk
  by_cases hkn : k < l.length
  · have h1 := sameFrame_fn (l.getD k default) (by have := (hs _ (getD_mem hkn)).1; omega)
    (repeat' first | (refine s_call (h1) (h := ?_)) | (refine p_call (h1) (h := ?_)) | (refine go_ ?_; ((repeat' first | exact True.intro | refine Two.mk ?_ ?_); all_goals intros)) | fail "")
    all_goals first
      | (refine ⟨k + 1, ?_, ?_, ?_⟩; rotate_left 2; (exact lessA_); (focus (omega)); (focus (omega)))
      | skip
  · (repeat' first | (refine go_ ?_; ((repeat' first | exact True.intro | refine Two.mk ?_ ?_); all_goals intros)) | fail "")
    all_goals first
      | exact ends_ (hr := rfl)
      | skip
end Go.Proofs.Ythpophgcmgdpjaa
