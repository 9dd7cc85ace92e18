/-
  RangesCuts: ranges.Cut and ranges.Holes answer what P3.3 and P3.4 say, at every argument. No condition.
-/
import Derived.Test.YtfbbfljdpbadfaaRgsHole
import Derived.Test.YtfbbfljdpbadfaaCells
set_option linter.unusedSimpArgs false
set_option linter.unusedVariables false
namespace Go.Proofs.Ytfbbfljdpbadfaa.rangesCuts
open Go.ChangeShapes Go.WideShapes Go.ChangeAt Go.RowKit
set_option maxRecDepth 100000
attribute [local irreducible] Run RunL QStep GStep Fn Less PL

theorem cut_bound (l : List DRange) (r : DRange) (hl : l.length * 16 ≤ 140737488351232) : (rCutR l r).1.length * 16 ≤ 140737488355328 := by
  unfold rCutR
  split
  · simp
  · obtain ⟨hs, hr⟩ := rgFlt_ok (l := l) (r := r) (by omega)
    have := rCut_len hr hs
    dsimp only; omega
theorem hol_bound (l : List DRange) (r : DRange) (hl : l.length * 16 ≤ 140737488351232) : (rHoles l r).1.length * 16 ≤ 140737488355328 := by
  unfold rHoles
  split
  · simp
  · obtain ⟨hs, hr⟩ := rgFlt_ok (l := l) (r := r) (by omega)
    have := (hol_set hs hr l.length (Nat.le_refl _)).2
    dsimp only; omega
theorem law_fn (l : List DRange) (r : DRange) (hw : ∀ y, y ∈ l → wfRange y) (hl : l.length * 16 ≤ 140737488351232) : Fn Try.prog 14 [.ro (l.map encRange), .agg (encRange r)] (.lit (.bool true)) := by
  have h1 := cut_fn l r hw (by omega)
  have h2 := cutRef_fn l r hw (by omega)
  have h3 := holes_fn l r hw hl
  have h4 := holesRef_fn l r hw hl
  have h5 := sameRanges_fn _ _ (cut_bound l r hl) (cut_bound l r hl)
  have h6 := sameRanges_fn _ _ (hol_bound l r hl) (hol_bound l r hl)
  rw [yes_of rfl] at h5 h6
  generalize rCutR l r = p at *
  generalize rHoles l r = q at *
  obtain ⟨p, e⟩ := p
  obtain ⟨q, f⟩ := q
  dsimp only at h1 h2 h3 h4 h5 h6
  refine fn_of_run (by kernel_rfl) Try.func14 rfl (by kernel_rfl) ?_
  (repeat' first | (refine s_call (h1) (h := ?_)) | (refine p_call (h1) (h := ?_)) | (refine s_call (h2) (h := ?_)) | (refine p_call (h2) (h := ?_)) | (refine s_call (h3) (h := ?_)) | (refine p_call (h3) (h := ?_)) | (refine s_call (h4) (h := ?_)) | (refine p_call (h4) (h := ?_)) | (refine s_call (h5) (h := ?_)) | (refine p_call (h5) (h := ?_)) | (refine s_call (h6) (h := ?_)) | (refine p_call (h6) (h := ?_)) | refine r_seq ?_ | refine r_region ?_ | refine r_cond_t rfl ?_ | refine r_cond_f rfl ?_ | refine r_block ?_ | refine r_skip ?_ | refine r_ret ?_ | refine r_exit ?_ | refine l_nil ?_ | refine s_skip (h := ?_) | refine s_nw (h := ?_) | refine s_len (h := ?_) | refine s_q (h := ?_) | (refine s_cmp (ht := ?_) (hf := ?_) <;> intro _ <;> try (exfalso; omega)) | refine s_store (h := ?_) | refine s_box (h := ?_) | refine s_alloc (h := ?_) | refine s_quo (h := ?_) | refine s_rem (h := ?_) | refine s_i (h := ?_) | refine s_i (hq := q_index_ro rfl rfl rfl (by first | exact lit0 | exact lit1 | exact lit2 | exact lit3 | rfl) (by simp only [List.length_cons, List.length_nil]; omega) rfl rfl rfl rfl) (h := ?_) | refine r_drawA ?_ | refine p_nil ?_ | refine p_skip (h := ?_) | refine p_nw (h := ?_) | refine p_len (h := ?_) | refine p_q (h := ?_) | refine p_qh (h := ?_) | (refine p_cmp (ht := ?_) (hf := ?_) <;> intro _ <;> try (exfalso; omega)) | refine p_store (h := ?_) | refine p_box (h := ?_) | refine p_alloc (h := ?_) | refine p_i (h := ?_) | refine p_ih (h := ?_) | refine p_skip0 (h := ?_) | refine s_skip0 (h := ?_) | refine s_nilc (h := ?_) | refine p_nilc (h := ?_) | refine s_bstr (h := ?_) | refine s_lit (h := ?_) | refine p_lit (h := ?_) | refine p_lit0 (h := ?_) | refine s_lit0 (h := ?_) | refine p_bstr (h := ?_) | (refine s_seql (ht := ?_) (hf := ?_) <;> intro _ <;> try (exfalso; omega)) | (refine s_sneq (ht := ?_) (hf := ?_) <;> intro _ <;> try (exfalso; omega)) | (refine s_beq (ht := ?_) (hf := ?_) <;> intro _ <;> try (exfalso; omega)) | (refine s_eqs (ht := ?_) (hf := ?_) <;> intro _ <;> try (exfalso; omega)) | (refine p_seql (ht := ?_) (hf := ?_) <;> intro _ <;> try (exfalso; omega)) | (refine p_beq (ht := ?_) (hf := ?_) <;> intro _ <;> try (exfalso; omega)) | (refine p_eqs (ht := ?_) (hf := ?_) <;> intro _ <;> try (exfalso; omega)) | refine thenQ_n ?_ | refine thenQ_r ?_ | refine thenQ_e ?_ | refine blockQ_n ?_ | refine blockQ_r ?_ | refine blockQ_x ?_ | refine blockQ_e rfl ?_)
  all_goals first
    | exact ends_ (hr := rfl)
    | (exfalso; simp at *; done)

theorem walk (W : World) (v0 : Value) (v1 : Value) (h0 : ArgIs Try.prog W 50 v0) (h1 : ArgIs Try.prog W 79 v1) :
    Calls Try.prog 14 #[v0, v1] W fun e W' => e = .returned (.bool true) ∧ Below W.heap.size W W' := by
  obtain ⟨a0, n0, b0, rfl, g0⟩ := h0.slice_ Try.underlying50
  obtain ⟨x0, r0, w0, u0⟩ := rd_of_slice (enc := encRange) (wf := wfRange) (size := 2) (bytes := 16) Try.underlying50 (by kernel_rfl) (by kernel_rfl) (by decide) (fun es h => rRange_of_cells es h) g0
  obtain ⟨c1, rfl, g1⟩ := h1.struct_ Try.underlying79
  obtain ⟨x1, r1, w1⟩ := rRange_of_cells _ g1
  exact law_of_fn (law_fn x0 x1 u0 w0) (.cons (argv_ro r0) (.cons (argv_agg r1) (.nil)))

set_option maxRecDepth 100000 in
theorem lifted (os : Os) (started : os.Started) (H : Type) (enc : TypeId × Value → H) :
    ReturnsInHanded {} Try.checked os 14 .any (Rows.rangesCutsSpec.pre6 enc Try.prog Try.f14 Rows.rangesCutsRow.domain false) (Rows.rangesCutsSpec.post enc Try.prog Try.f14 false true false false) :=
  law_lifted (C := Try.checked) (s := Rows.rangesCutsSpec) (by kernel_rfl) started (by kernel_rfl) Try.func14
    (ChangeSpec.witness6 (enc := enc) (C := Try.checked) false ⟨#[], #[.slice none 0 0, .agg #[.int .i64 0, .int .i64 0]], []⟩ 8 (by kernel_rfl) (by kernel_rfl) (by kernel_rfl) (by kernel_rfl))
    (by kernel_rfl) rfl (fun ds hd => by
      match ds, hd with
      | [_, _], _ => rfl) rfl Try.underlying4 (by kernel_rfl)
    (fun W args h => by
      rw [Try.params14] at h
      obtain ⟨v0, l0, e0, h0, r0⟩ := h
      obtain ⟨v1, l1, e1, h1, r1⟩ := r0
      have r1' : l1 = [] := r1
      obtain rfl : args = #[v0, v1] := by
        apply Array.toList_inj.1
        rw [e0, e1, r1']
      exact walk W v0 v1 h0 h1)

theorem over : Rows.rangesCutsRow.holds Try.pinned (OpenSpec.ofChange Rows.rangesCutsSpec) :=
  OpenClaim.holds_of_wide 14 Try.f14 rfl rfl rfl rfl rfl rfl rfl ⟨rfl, rfl, rfl, rfl, rfl⟩ rfl rfl rfl rfl rfl (by kernel_rfl) Try.func14 (by kernel_rfl)
    (of_decide_eq_true (by kernel_rfl)) (by unfold Func.isWrapper; first | (rw [if_pos (by decide +kernel)]; kernel_rfl) | (rw [if_neg (by decide +kernel)]; exact ⟨rfl, rfl⟩))
    (fun os started H enc _ => lifted os started H enc)

theorem proved : Rows.RangesCutsSaid := over
#print axioms proved

end Go.Proofs.Ytfbbfljdpbadfaa.rangesCuts
