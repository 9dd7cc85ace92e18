/-
  RequestFeeds: request.Feed answers what P16.3 says, at every argument. No condition.
-/
import Derived.Test.YthpophgcmgdpjaaGo
import Derived.Test.YthpophgcmgdpjaaFeed
import Derived.Test.YthpophgcmgdpjaaFeedR
import Derived.Test.YthpophgcmgdpjaaSameTab
import Derived.Test.YthpophgcmgdpjaaSameB
import Derived.Test.YthpophgcmgdpjaaCells
set_option linter.unusedSimpArgs false
set_option linter.unusedVariables false
namespace Go.Proofs.Ythpophgcmgdpjaa.requestFeeds
open Go.ChangeShapes Go.WideShapes Go.ChangeAt Go.RowKit
set_option maxRecDepth 100000
attribute [local irreducible] Run RunL QStep GStep Fn Less PL FnM

theorem fdRun_flds (t : DTable) (fin : Bool) : ∀ (n : Nat) (r : DReader), r.Fields.length * 32 ≤ 140737488351232 → (fdRun t fin n r).1.Fields.length * 32 ≤ 140737488351232
  | 0, r, h => h
  | n + 1, r, h => by
    unfold fdRun
    split
    · unfold fdEnd
      split
      · simp [rdZ]
      · exact h
    · split
      · exact h
      · split
        · simp [rdZ]
        · split
          · exact h
          · split
            · simp [rdZ]
            · refine fdRun_flds t fin n _ ?_
              unfold withHeld
              dsimp only
              obtain ⟨hl, _⟩ := deR_wf t (nxR r.Held).2.1
              unfold frR
              split
              · exact h
              · split
                · split
                  · dsimp only; omega
                  · dsimp only; omega
                · split
                  · split <;> exact h
                  · exact h
theorem fdR_flds (r : DReader) (t : DTable) (b : List UInt8) (fin : Bool) (h : r.Fields.length * 32 ≤ 140737488351232) : (fdR r t b fin).1.Fields.length * 32 ≤ 140737488351232 := by
  unfold fdR
  split
  · simp [rdZ]
  · split
    · simp [rdZ]
    · exact fdRun_flds t fin _ _ h
set_option maxHeartbeats 2000000 in
theorem sameReader_refl (r : DReader) (h : r.Fields.length * 32 ≤ 140737488351232) : Fn Try.prog 36 [.agg (encReader r), .agg (encReader r)] (.lit (.bool true)) := by
  have h1 := sameBytes_fn r.Held r.Held
  have h2 := sameBytes_fn r.Body r.Body
  have h3 := sameFields_fn r.Fields r.Fields (by omega) (by omega)
  rw [yes_of rfl] at h3
  refine fn_of_run (by kernel_rfl) Try.func36 rfl (by kernel_rfl) ?_
  (repeat' first | (refine s_yes (h1) (ht := ?_) (hff := ?_) <;> intro _ <;> try (exfalso; omega)) | (refine p_yes (h1) (ht := ?_) (hff := ?_) <;> intro _ <;> try (exfalso; omega)) | (refine s_yes (h2) (ht := ?_) (hff := ?_) <;> intro _ <;> try (exfalso; omega)) | (refine p_yes (h2) (ht := ?_) (hff := ?_) <;> intro _ <;> try (exfalso; omega)) | (refine s_call (h3) (h := ?_)) | (refine p_call (h3) (h := ?_)) | (refine go_ ?_; ((repeat' first | exact True.intro | refine Two.mk ?_ ?_); all_goals intros)) | fail "")
  all_goals first
    | exact ends_ (hr := rfl)
    | (exfalso; simp at *; done)
    | skip
set_option maxHeartbeats 2000000 in
theorem law_fn (r : DReader) (t : DTable) (b : List UInt8) (fin : Bool) (hr : wfReader r) (hw : wfTable t) (hb : b.length * 1 ≤ 140737488351232) : Fn Try.prog 7 [.agg (encReader r), .agg (encTable t), .ro (b.map encB), .lit (.bool fin)] (.lit (.bool true)) := by
  have h1 := feed_fn r t b fin hr hw hb
  have h2 := fed_fn r t b fin hr hw hb
  have h3 := sameReader_refl (fdR r t b fin).1 (fdR_flds r t b fin hr.2.1)
  generalize fdR r t b fin = x at *
  obtain ⟨x, e⟩ := x
  unfold encFd at h1 h2
  dsimp only at *
  refine fn_of_run (by kernel_rfl) Try.func7 rfl (by kernel_rfl) ?_
  (repeat' first | (refine s_call (h1) (h := ?_)) | (refine p_call (h1) (h := ?_)) | (refine s_call (h2) (h := ?_)) | (refine p_call (h2) (h := ?_)) | (refine s_call (h3) (h := ?_)) | (refine p_call (h3) (h := ?_)) | (refine go_ ?_; ((repeat' first | exact True.intro | refine Two.mk ?_ ?_); all_goals intros)) | fail "")
  all_goals first
    | exact ends_ (hr := rfl)
    | (exfalso; simp at *; done)
    | skip

theorem walk (W : World) (v0 : Value) (v1 : Value) (v2 : Value) (v3 : Value) (h0 : ArgIs Try.prog W 51 v0) (h1 : ArgIs Try.prog W 24 v1) (h2 : ArgIs Try.prog W 25 v2) (h3 : ArgIs Try.prog W 4 v3) :
    Calls Try.prog 7 #[v0, v1, v2, v3] W fun e W' => e = .returned (.bool true) ∧ Below W.heap.size W W' := by
  obtain ⟨c0, rfl, g0⟩ := h0.struct_ Try.underlying51
  obtain ⟨x0, r0, w0⟩ := rReader_of_cells _ g0
  obtain ⟨c1, rfl, g1⟩ := h1.struct_ Try.underlying24
  obtain ⟨x1, r1, w1⟩ := rTable_of_cells _ g1
  obtain ⟨a2, n2, b2, rfl, g2⟩ := h2.slice_ Try.underlying25
  obtain ⟨x2, r2, w2, u2⟩ := rd_of_slice (enc := encB) (wf := fun _ => True) (size := 1) (bytes := 1) Try.underlying25 (by kernel_rfl) (by kernel_rfl) (by decide) (fun es h => rdB_of_cells Try.underlying5 es h) g2
  obtain ⟨x3, rfl⟩ := h3.bool_ Try.underlying4
  exact law_of_fn (law_fn x0 x1 x2 x3 w0 w1 w2) (.cons (argv_agg r0) (.cons (argv_agg r1) (.cons (argv_ro r2) (.cons (argv_lit rfl) (.nil)))))

set_option maxRecDepth 100000 in
theorem lifted (os : Os) (started : os.Started) (H : Type) (enc : TypeId × Value → H) :
    ReturnsInHanded {} Try.checked os 7 .any (Rows.requestFeedsSpec.pre6 enc Try.prog Try.f7 Rows.requestFeedsRow.domain false) (Rows.requestFeedsSpec.post enc Try.prog Try.f7 false true false false) :=
  law_lifted (C := Try.checked) (s := Rows.requestFeedsSpec) (by kernel_rfl) started (by kernel_rfl) Try.func7
    (ChangeSpec.witness6 (enc := enc) (C := Try.checked) false ⟨#[], #[.agg #[.slice none 0 0, .slice none 0 0, .bool false, .slice none 0 0, .bool false], .agg #[.int .i64 0, .int .i64 0, .slice none 0 0], .slice none 0 0, .bool false], []⟩ 8 (by kernel_rfl) (by kernel_rfl) (by kernel_rfl) (by kernel_rfl))
    (by kernel_rfl) rfl (fun ds hd => by
      match ds, hd with
      | [_, _, _, _], _ => rfl) rfl Try.underlying4 (by kernel_rfl)
    (fun W args h => by
      rw [Try.params7] at h
      obtain ⟨v0, l0, e0, h0, r0⟩ := h
      obtain ⟨v1, l1, e1, h1, r1⟩ := r0
      obtain ⟨v2, l2, e2, h2, r2⟩ := r1
      obtain ⟨v3, l3, e3, h3, r3⟩ := r2
      have r3' : l3 = [] := r3
      obtain rfl : args = #[v0, v1, v2, v3] := by
        apply Array.toList_inj.1
        rw [e0, e1, e2, e3, r3']
      exact walk W v0 v1 v2 v3 h0 h1 h2 h3)

theorem over : Rows.requestFeedsRow.holds Try.pinned (OpenSpec.ofChange Rows.requestFeedsSpec) :=
  OpenClaim.holds_of_wide 7 Try.f7 rfl rfl rfl rfl rfl rfl rfl ⟨rfl, rfl, rfl, rfl, rfl⟩ rfl rfl rfl rfl rfl (by kernel_rfl) Try.func7 (by kernel_rfl)
    (of_decide_eq_true (by kernel_rfl)) (by unfold Func.isWrapper; first | (rw [if_pos (by decide +kernel)]; kernel_rfl) | (rw [if_neg (by decide +kernel)]; exact ⟨rfl, rfl⟩))
    (fun os started H enc _ => lifted os started H enc)

theorem proved : Rows.RequestFeedsSaid := over
#print axioms proved

end Go.Proofs.Ythpophgcmgdpjaa.requestFeeds
