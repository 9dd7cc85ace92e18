/-
  The reference's FrameOf: its number, and plain lemmas on its letters. No condition.
-/
import Derived.Test.YthpophgcmgdpjaaGo
import Derived.Test.YthpophgcmgdpjaaFrS
import Derived.Test.YthpophgcmgdpjaaFrF
set_option linter.unusedVariables false
set_option linter.unusedSimpArgs false
set_option linter.unusedVariables false
namespace Go.Proofs.Ythpophgcmgdpjaa
set_option maxRecDepth 100000
attribute [local irreducible] Run RunL QStep GStep Fn Less PL FnM

theorem num_fnm (s : List UInt8) (e : Int) (hs : s.length ≤ 1000000000000000) : FnM Try.prog 188 [.ptr 0 0 0 0, .ptr 1 0 0 0] [(0, some (.box 26 [.lit (.int .i64 e)])), (1, some (.box 9 [.lit (.string (strB s))]))] 2 (.lit (.int .i64 ((numR s e).1 : Int))) [(0, some (.box 26 [.lit (.int .i64 (numR s e).2.2)])), (1, some (.box 9 [.lit (.string (strB (numR s e).2.1))]))] 2 := by
  unfold numR
  by_cases he : e = 0
  · subst he
    rw [if_neg (by omega)]
    have hv := varOf_fn s hs
    rcases hv0 : varD s with ⟨n, k, c⟩
    rw [hv0] at hv
    dsimp only at hv ⊢
    rcases varD_ok hv0 with ⟨rfl, q1, q2, q3, q4⟩ | ⟨rfl, rfl, rfl⟩
    · rw [if_pos rfl]
      clear hv0
      have et : (s.take s.length).drop k = s.drop k := by rw [List.take_length]
      refine fnm_of_run (by kernel_rfl) Try.func188 rfl (by kernel_rfl) (by rfl) ?_
      (repeat' first | (refine s_call (hv) (h := ?_)) | (refine p_call (hv) (h := ?_)) | (refine s_slice (r := s.drop k) (k) (s.length) ?_ ?_ ?_ ?_ ?_ (h := ?_); (focus (first | rfl | (simp only [Option.getD_some, Option.getD_none, List.length_map]; omega))); (focus (first | rfl | (simp only [Option.getD_some, Option.getD_none, List.length_map]; omega))); (focus omega); (focus omega); (focus (first | with_reducible rfl | assumption | (simp; done)))) | (refine p_slice (r := s.drop k) (k) (s.length) ?_ ?_ ?_ ?_ ?_ (h := ?_); (focus (first | rfl | (simp only [Option.getD_some, Option.getD_none, List.length_map]; omega))); (focus (first | rfl | (simp only [Option.getD_some, Option.getD_none, List.length_map]; omega))); (focus omega); (focus omega); (focus (first | with_reducible rfl | assumption | (simp; done)))) | (refine s_slice_str (r := s.drop k) (k) (s.length) ?_ ?_ ?_ ?_ ?_ (h := ?_); (focus (first | rfl | (simp only [Option.getD_some, Option.getD_none, List.length_map]; omega))); (focus (first | rfl | (simp only [Option.getD_some, Option.getD_none, List.length_map]; omega))); (focus omega); (focus omega); (focus (first | with_reducible rfl | assumption | (simp; done)))) | (refine p_slice_str (r := s.drop k) (k) (s.length) ?_ ?_ ?_ ?_ ?_ (h := ?_); (focus (first | rfl | (simp only [Option.getD_some, Option.getD_none, List.length_map]; omega))); (focus (first | rfl | (simp only [Option.getD_some, Option.getD_none, List.length_map]; omega))); (focus omega); (focus omega); (focus (first | with_reducible rfl | assumption | (simp; done)))) | (refine s_sliceO (r := s.drop k) (k) (s.length) ?_ ?_ ?_ ?_ ?_ (h := ?_); (focus (first | rfl | (simp only [Option.getD_some, Option.getD_none, List.length_map]; omega))); (focus (first | rfl | (simp only [Option.getD_some, Option.getD_none, List.length_map]; omega))); (focus omega); (focus omega); (focus (first | with_reducible rfl | assumption | (simp; done)))) | (refine s_sliceM (r := s.drop k) (k) (s.length) ?_ ?_ ?_ ?_ ?_ (h := ?_); (focus (first | rfl | (simp only [Option.getD_some, Option.getD_none, List.length_map]; omega))); (focus (first | rfl | (simp only [Option.getD_some, Option.getD_none, List.length_map]; omega))); (focus omega); (focus omega); (focus (first | with_reducible rfl | assumption | (simp; done)))) | (refine go_ ?_; ((repeat' first | exact True.intro | refine Two.mk ?_ ?_); all_goals intros)) | fail "")
      all_goals first
        | (exact endmA_)
        | skip
    · rw [if_neg (by simp)]
      clear hv0
      have et : (s.take s.length).drop 0 = s := by rw [List.take_length]; rfl
      refine fnm_of_run (by kernel_rfl) Try.func188 rfl (by kernel_rfl) (by rfl) ?_
      (repeat' first | (refine s_call (hv) (h := ?_)) | (refine p_call (hv) (h := ?_)) | (refine s_slice (r := s) (0) (s.length) ?_ ?_ ?_ ?_ ?_ (h := ?_); (focus (first | rfl | (simp only [Option.getD_some, Option.getD_none, List.length_map]; omega))); (focus (first | rfl | (simp only [Option.getD_some, Option.getD_none, List.length_map]; omega))); (focus omega); (focus omega); (focus (first | with_reducible rfl | assumption | (simp; done)))) | (refine p_slice (r := s) (0) (s.length) ?_ ?_ ?_ ?_ ?_ (h := ?_); (focus (first | rfl | (simp only [Option.getD_some, Option.getD_none, List.length_map]; omega))); (focus (first | rfl | (simp only [Option.getD_some, Option.getD_none, List.length_map]; omega))); (focus omega); (focus omega); (focus (first | with_reducible rfl | assumption | (simp; done)))) | (refine s_slice_str (r := s) (0) (s.length) ?_ ?_ ?_ ?_ ?_ (h := ?_); (focus (first | rfl | (simp only [Option.getD_some, Option.getD_none, List.length_map]; omega))); (focus (first | rfl | (simp only [Option.getD_some, Option.getD_none, List.length_map]; omega))); (focus omega); (focus omega); (focus (first | with_reducible rfl | assumption | (simp; done)))) | (refine p_slice_str (r := s) (0) (s.length) ?_ ?_ ?_ ?_ ?_ (h := ?_); (focus (first | rfl | (simp only [Option.getD_some, Option.getD_none, List.length_map]; omega))); (focus (first | rfl | (simp only [Option.getD_some, Option.getD_none, List.length_map]; omega))); (focus omega); (focus omega); (focus (first | with_reducible rfl | assumption | (simp; done)))) | (refine s_sliceO (r := s) (0) (s.length) ?_ ?_ ?_ ?_ ?_ (h := ?_); (focus (first | rfl | (simp only [Option.getD_some, Option.getD_none, List.length_map]; omega))); (focus (first | rfl | (simp only [Option.getD_some, Option.getD_none, List.length_map]; omega))); (focus omega); (focus omega); (focus (first | with_reducible rfl | assumption | (simp; done)))) | (refine s_sliceM (r := s) (0) (s.length) ?_ ?_ ?_ ?_ ?_ (h := ?_); (focus (first | rfl | (simp only [Option.getD_some, Option.getD_none, List.length_map]; omega))); (focus (first | rfl | (simp only [Option.getD_some, Option.getD_none, List.length_map]; omega))); (focus omega); (focus omega); (focus (first | with_reducible rfl | assumption | (simp; done)))) | (refine go_ ?_; ((repeat' first | exact True.intro | refine Two.mk ?_ ?_); all_goals intros)) | fail "")
      all_goals first
        | (exact endmA_)
        | skip
  · rw [if_pos he]
    refine fnm_of_run (by kernel_rfl) Try.func188 rfl (by kernel_rfl) (by rfl) ?_
    (repeat' first | (refine go_ ?_; ((repeat' first | exact True.intro | refine Two.mk ?_ ?_); all_goals intros)) | fail "")
    all_goals first
      | (exact endmA_)
      | skip
def stR (g : FS → FS) (z : FS) : FS := if ¬ z.2.2 = 0 then z else g z
/-- a letter's step -/
def stL (c : UInt8) (z : FS) : FS :=
  if (c.toNat : Int) = 105 then sId z else if (c.toNat : Int) = 111 then sOf z else if (c.toNat : Int) = 99 then sCo z else if (c.toNat : Int) = 119 then sWo z else if (c.toNat : Int) = 100 then sDa z else z
def foldR : List UInt8 → FS → FS
  | [], z => z
  | c :: l, z => foldR l (stR (stL c) z)
theorem foldR_err {l : List UInt8} {z : FS} (h : ¬ z.2.2 = 0) : foldR l z = z := by
  induction l with
  | nil => rfl
  | cons c l ih => unfold foldR; rw [show stR (stL c) z = z from if_pos h]; exact ih
def Eqv (z w : FS) : Prop := z = w ∨ (¬ z.2.2 = 0 ∧ z.2.2 = w.2.2)
theorem fin_eqv {A : Nat} {z w : FS} (h : Eqv z w) : frFin A z = frFin A w := by
  rcases h with rfl | ⟨h1, h2⟩
  · rfl
  · unfold frFin; rw [if_pos h1, if_pos (by rw [← h2]; exact h1), h2]
def Keeps (g : FS → FS) : Prop := ∀ z, ¬ z.2.2 = 0 → (g z).2.2 = z.2.2
theorem stR_eqv {g : FS → FS} (hg : Keeps g) {z w : FS} (h : Eqv z w) : Eqv (stR g z) (g w) := by
  unfold stR
  rcases h with rfl | ⟨h1, h2⟩
  · by_cases he : z.2.2 = 0
    · rw [if_neg (by omega)]; exact .inl rfl
    · rw [if_pos he]; exact .inr ⟨he, (hg _ he).symm⟩
  · rw [if_pos h1]
    exact .inr ⟨h1, by rw [hg w (by rw [← h2]; exact h1)]; exact h2⟩
theorem keeps_num {z : FS} (h : ¬ z.2.2 = 0) : (numR z.2.1 z.2.2).2.2 = z.2.2 := by rw [(numR_facts z.2.1 z.2.2).2.2.1 h]
theorem keeps_id : Keeps sId := fun z h => keeps_num h
theorem keeps_of : Keeps sOf := fun z h => keeps_num h
theorem keeps_co : Keeps sCo := fun z h => keeps_num h
theorem keeps_wo : Keeps sWo := fun z h => by
  show (takeR 8 z.2.1 z.2.2).2.2 = _
  rw [(takeR_facts 8 z.2.1 z.2.2).2.2 h]
theorem keeps_da : Keeps sDa := fun z h => by
  have f := numR_facts z.2.1 z.2.2
  have hn := f.2.2.1 h
  have hd : daE z = z.2.2 := by unfold daE; rw [hn]; exact if_neg (by simp)
  show (takeR (numR z.2.1 z.2.2).1 (numR z.2.1 z.2.2).2.1 (daE z)).2.2 = _
  rw [hd, (takeR_facts _ _ _).2.2 h]
theorem fold_seq {A : Nat} {K : Int} (hk : kOk K = true) (h2 : ¬ K = 2) (z : FS) : frFin A (foldR (hasB K) z) = frFin A (seqS (hasB K) z) := by
  refine fin_eqv ?_
  have l1 : stL 105 = sId := rfl
  have l2 : stL 111 = sOf := rfl
  have l3 : stL 99 = sCo := rfl
  have l4 : stL 119 = sWo := rfl
  have l5 : stL 100 = sDa := rfl
  have r0 : Eqv z z := .inl rfl
  have rf : ∀ w, Eqv w w := fun w => .inl rfl
  rcases kind_cases K with rfl | rfl | rfl | rfl | rfl | rfl | rfl | rfl | rfl | rfl | rfl | rfl | rfl | rfl | rfl | hk2
  · exact r0
  · exact r0
  · omega
  · exact stR_eqv keeps_co (stR_eqv keeps_of (stR_eqv keeps_id r0))
  · exact stR_eqv keeps_co (stR_eqv keeps_id r0)
  · exact stR_eqv keeps_da (stR_eqv keeps_of r0)
  · exact stR_eqv keeps_da r0
  · show Eqv (stR (stL 102) (stR sDa (stR sOf (stR sId z)))) (sDa (sOf (sId z)))
    have := stR_eqv keeps_da (stR_eqv keeps_of (stR_eqv keeps_id r0))
    have hf : ∀ q : FS, stR (stL 102) q = q := fun q => by unfold stR; split <;> rfl
    rw [hf]
    exact this
  · exact stR_eqv keeps_of r0
  · exact stR_eqv keeps_of (stR_eqv keeps_id r0)
  · exact stR_eqv keeps_of r0
  · exact stR_eqv keeps_wo r0
  · exact stR_eqv keeps_wo r0
  · exact stR_eqv keeps_co r0
  · exact r0
  · rw [(kOk_other hk2).1] at hk; cases hk
theorem no_r {K : Int} (h2 : ¬ K = 2) : ∀ j, j < (hasB K).length → ¬ (((hasB K).getD j default).toNat : Int) = 114 := by
  rcases kind_cases K with rfl | rfl | rfl | rfl | rfl | rfl | rfl | rfl | rfl | rfl | rfl | rfl | rfl | rfl | rfl | hk2
  iterate 2 exact fun j hj => absurd hj (by simp [hasB])
  · omega
  iterate 12 decide
  · rw [(kOk_other hk2).2]; exact fun j hj => absurd hj (by simp)
theorem WkL.all : ∀ {vs vs' : List V}, WkL vs vs' → vs.length = vs'.length ∧ ∀ j, j < vs.length → Wk (cAt vs j) (cAt vs' j)
  | _, _, .nil => ⟨rfl, fun j hj => by simp at hj⟩
  | _, _, .cons h hs => by
    obtain ⟨e, ih⟩ := WkL.all hs
    refine ⟨by simp [e], fun j hj => ?_⟩
    cases j with
    | zero => exact h
    | succ j => rw [cAt_succ, cAt_succ]; exact ih j (by simpa using hj)
theorem fn_wk {P : Program} {f : FuncId} {vs vs' : List V} {r : V} (h : Fn P f vs' r) (hw : WkL vs vs') : Fn P f vs r := by
  obtain ⟨e, hj⟩ := hw.all
  unfold Fn at *
  refine ⟨h.1, fun w S vals h1 h2 h3 => h.2 w S vals (by rw [h1, e]) h2 (fun j hl => ?_)⟩
  exact (hj j (by omega)).rel (h3 j (by omega))
theorem num8_fn (r : List UInt8) (h : r.length ≤ 8) : Fn Try.prog 100 [.lit (.string (strB r))] (.lit (.int .u64 ((numG 0 r : Nat) : Int))) := by
  have := number_fn r (by omega)
  rw [numV_num _ _ rfl h] at this
  exact this
theorem fin_err {A : Nat} {l : List UInt8} {z : FS} (h : ¬ z.2.2 = 0) : frFin A (foldR l z) = frErr z.2.2 := by
  rw [foldR_err h]; exact if_pos h
theorem wo_short {z : FS} (he : z.2.2 = 0) (h : z.2.1.length < 8) : (sWo z).2.2 = 4 := by
  show (takeR 8 z.2.1 z.2.2).2.2 = 4
  unfold takeR; rw [if_neg (by omega), if_pos h]
theorem wo_ok {z : FS} (he : z.2.2 = 0) (h : ¬ z.2.1.length < 8) : sWo z = ({ z.1 with Code := IntKind.i64.wrap ((numG 0 (z.2.1.take 8) : Nat) : Int) }, z.2.1.drop 8, z.2.2) := by
  unfold sWo takeR
  rw [if_neg (by omega), if_neg h, he]
theorem da_err {z : FS} (h : ¬ (numR z.2.1 z.2.2).2.2 = 0) : (sDa z).2.2 = (numR z.2.1 z.2.2).2.2 := by
  have f := (numR_facts z.2.1 z.2.2).2.2.2 h
  have hd : daE z = (numR z.2.1 z.2.2).2.2 := (daE_facts z).2.2 (by omega)
  show (takeR (numR z.2.1 z.2.2).1 (numR z.2.1 z.2.2).2.1 (daE z)).2.2 = _
  rw [hd, (takeR_facts _ _ _).2.2 h]
theorem da_big {z : FS} (h : 120 < (numR z.2.1 z.2.2).1) : (sDa z).2.2 = 1 := by
  have hd := (daE_facts z).2.1 h
  show (takeR (numR z.2.1 z.2.2).1 (numR z.2.1 z.2.2).2.1 (daE z)).2.2 = _
  rw [hd, (takeR_facts _ _ _).2.2 (by decide)]
theorem da_short {z : FS} (h : ¬ 120 < (numR z.2.1 z.2.2).1) (he : (numR z.2.1 z.2.2).2.2 = 0) (hs : (numR z.2.1 z.2.2).2.1.length < (numR z.2.1 z.2.2).1) : (sDa z).2.2 = 4 := by
  have hd := (daE_facts z).2.2 h
  show (takeR (numR z.2.1 z.2.2).1 (numR z.2.1 z.2.2).2.1 (daE z)).2.2 = _
  rw [hd, he]
  unfold takeR; rw [if_neg (by omega), if_pos hs]
theorem da_ok {z : FS} (h : ¬ 120 < (numR z.2.1 z.2.2).1) (he : (numR z.2.1 z.2.2).2.2 = 0) (hs : ¬ (numR z.2.1 z.2.2).2.1.length < (numR z.2.1 z.2.2).1) :
    sDa z = ({ z.1 with Data := (numR z.2.1 z.2.2).2.1.take (numR z.2.1 z.2.2).1 }, (numR z.2.1 z.2.2).2.1.drop (numR z.2.1 z.2.2).1, (numR z.2.1 z.2.2).2.2) := by
  have hd := (daE_facts z).2.2 h
  unfold sDa
  rw [hd, he]
  unfold takeR; rw [if_neg (by omega), if_neg hs]
end Go.Proofs.Ythpophgcmgdpjaa
