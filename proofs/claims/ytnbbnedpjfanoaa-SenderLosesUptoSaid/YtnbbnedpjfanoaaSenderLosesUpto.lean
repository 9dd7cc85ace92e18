/-
  SenderLoses: sender.Lose answers what P10.6 says, within the bound of the second form.
-/
import Derived.Test.YtnbbnedpjfanoaaSndLo
import Derived.Test.YtnbbnedpjfanoaaCells
import Derived.Test.YtnbbnedpjfanoaaCellsU
set_option linter.unusedSimpArgs false
set_option linter.unusedVariables false
namespace Go.Proofs.Ytnbbnedpjfanoaa.senderLosesUpto
open Go.ChangeShapes Go.WideShapes Go.ChangeAt Go.RowKit
set_option maxRecDepth 100000
attribute [local irreducible] Run RunL QStep GStep Fn Less PL FnM

set_option maxHeartbeats 2000000 in
theorem law_fn (s : DSender) (off n : Int) (fin : Bool) (hw : U.wfSender s) (ho : I64 off) (hn : I64 n) : Fn Try.prog 9 [.agg (encSender s), .lit (.int .i64 off), .lit (.int .i64 n), .lit (.bool fin)] (.lit (.bool true)) := by
  have h1 := lose_fn s off n fin (U.wf_leSender s hw) ⟨hw.2.2.2.1, hw.2.2.2.2.2.1⟩ ho hn
  have h2 := loseRef_fn s off n fin hw ho hn
  obtain ⟨q1, q2⟩ := lostR_same s off n fin hw
  have h3 := sameSender_refl (lostR s off n fin).1 q1 q2
  clear hw ho hn q1 q2
  generalize lostR s off n fin = x at *
  obtain ⟨x, e⟩ := x
  unfold encSE at h1 h2
  dsimp only at *
  refine fn_of_run (by kernel_rfl) Try.func9 rfl (by kernel_rfl) ?_
  (repeat' first | (refine s_call (h1) (h := ?_)) | (refine p_call (h1) (h := ?_)) | (refine s_call (h2) (h := ?_)) | (refine p_call (h2) (h := ?_)) | (refine s_call (h3) (h := ?_)) | (refine p_call (h3) (h := ?_)) | refine p_quo (h := ?_) | refine p_rem (h := ?_) | refine r_seq ?_ | refine r_region ?_ | refine r_cond_t rfl ?_ | refine r_cond_f rfl ?_ | refine r_block ?_ | refine r_skip ?_ | refine r_ret ?_ | refine r_exit ?_ | refine l_nil ?_ | refine s_skip (h := ?_) | refine s_nw (h := ?_) | refine s_len (h := ?_) | refine s_lens (h := ?_) | refine s_q (h := ?_) | (refine s_cmp (ht := ?_) (hf := ?_) <;> intro _ <;> try (exfalso; omega)) | refine s_store (h := ?_) | refine s_box (h := ?_) | refine s_alloc (h := ?_) | refine s_quo (h := ?_) | refine s_rem (h := ?_) | refine s_i (h := ?_) | refine s_i (hq := q_index_ro rfl rfl rfl (by first | exact lit0 | exact lit1 | exact lit2 | exact lit3 | rfl) (by simp only [List.length_cons, List.length_nil]; omega) rfl rfl rfl rfl) (h := ?_) | refine r_drawA ?_ | refine p_nil ?_ | refine p_skip (h := ?_) | refine p_nw (h := ?_) | refine p_len (h := ?_) | refine p_lens (h := ?_) | refine p_q (h := ?_) | refine p_qh (h := ?_) | (refine p_cmp (ht := ?_) (hf := ?_) <;> intro _ <;> try (exfalso; omega)) | refine p_store (h := ?_) | refine p_box (h := ?_) | refine p_alloc (h := ?_) | refine p_i (h := ?_) | refine p_ih (h := ?_) | refine p_skip0 (h := ?_) | refine s_skip0 (h := ?_) | refine s_nilc (h := ?_) | refine p_nilc (h := ?_) | refine s_bstr (h := ?_) | refine s_lit (h := ?_) | refine p_lit (h := ?_) | refine p_lit0 (h := ?_) | refine s_lit0 (h := ?_) | refine s_ixa (h := ?_) | refine s_func (h := ?_) | refine p_bstr (h := ?_) | (refine s_seql (ht := ?_) (hf := ?_) <;> intro hb_ <;> try (exfalso; first | omega | (simp at hb_; done) | exact absurd hb_ (by assumption) | exact absurd (by assumption) hb_)) | (refine s_sneq (ht := ?_) (hf := ?_) <;> intro hb_ <;> try (exfalso; first | omega | (simp at hb_; done) | exact absurd hb_ (by assumption) | exact absurd (by assumption) hb_)) | (refine s_eqs (ht := ?_) (hf := ?_) <;> intro hb_ <;> try (exfalso; first | omega | (simp at hb_; done) | exact absurd hb_ (by assumption) | exact absurd (by assumption) hb_)) | (refine p_seql (ht := ?_) (hf := ?_) <;> intro hb_ <;> try (exfalso; first | omega | (simp at hb_; done) | exact absurd hb_ (by assumption) | exact absurd (by assumption) hb_)) | (refine p_sneq (ht := ?_) (hf := ?_) <;> intro hb_ <;> try (exfalso; first | omega | (simp at hb_; done) | exact absurd hb_ (by assumption) | exact absurd (by assumption) hb_)) | (refine p_eqs (ht := ?_) (hf := ?_) <;> intro hb_ <;> try (exfalso; first | omega | (simp at hb_; done) | exact absurd hb_ (by assumption) | exact absurd (by assumption) hb_)) | refine thenQ_n ?_ | refine thenQ_r ?_ | refine thenQ_e ?_ | refine blockQ_n ?_ | refine blockQ_r ?_ | refine blockQ_x ?_ | refine blockQ_e rfl ?_ | refine p_shr (h := ?_) | refine p_shl (h := ?_) | (refine s_bytes (h63 := ?_) (h := ?_); (focus (first | omega | (simp only [List.length_append, List.length_map, List.length_cons, List.length_nil, List.length_take, List.length_drop]; omega)))) | (refine p_bytes (h63 := ?_) (h := ?_); (focus (first | omega | (simp only [List.length_append, List.length_map, List.length_cons, List.length_nil, List.length_take, List.length_drop]; omega)))) | refine s_sidx (h := ?_) | refine p_sidx (h := ?_) | refine s_makeMap (h := ?_) | refine s_insert (h := ?_) | (refine s_beq (ht := ?_) (hf := ?_) <;> intro hb_ <;> try (exfalso; simp at hb_; done)) | (refine p_beq (ht := ?_) (hf := ?_) <;> intro hb_ <;> try (exfalso; simp at hb_; done)) | (refine s_bne (ht := ?_) (hf := ?_) <;> intro hb_ <;> try (exfalso; simp at hb_; done)) | (refine p_bne (ht := ?_) (hf := ?_) <;> intro hb_ <;> try (exfalso; simp at hb_; done)) | (refine s_sadd rfl ?_ (h := ?_); (focus (first | omega | (simp only [List.length_append, List.length_map, List.length_cons, List.length_nil, List.length_take, List.length_drop]; omega)))) | (refine p_sadd rfl ?_ (h := ?_); (focus (first | omega | (simp only [List.length_append, List.length_map, List.length_cons, List.length_nil, List.length_take, List.length_drop]; omega)))))
  all_goals first
    | exact ends_ (hr := rfl)
    | skip

theorem walk (W : World) (v0 : Value) (v1 : Value) (v2 : Value) (v3 : Value) (h0 : U.ArgIs Try.prog W 54 v0) (h1 : U.ArgIs Try.prog W 3 v1) (h2 : U.ArgIs Try.prog W 3 v2) (h3 : U.ArgIs Try.prog W 4 v3) :
    Calls Try.prog 9 #[v0, v1, v2, v3] W fun e W' => e = .returned (.bool true) ∧ Below W.heap.size W W' := by
  obtain ⟨c0, rfl, g0⟩ := h0.struct_ Try.underlying54
  obtain ⟨x0, r0, w0⟩ := U.rSender_of_cells _ g0
  obtain ⟨x1, rfl, w1⟩ := h1.int_ Try.underlying3
  replace w1 := i64_of_wf w1
  obtain ⟨x2, rfl, w2⟩ := h2.int_ Try.underlying3
  replace w2 := i64_of_wf w2
  obtain ⟨x3, rfl⟩ := h3.bool_ Try.underlying4
  exact law_of_fn (law_fn x0 x1 x2 x3 w0 w1 w2) (.cons (argv_agg r0) (.cons (argv_lit rfl) (.cons (argv_lit rfl) (.cons (argv_lit rfl) (.nil)))))

set_option maxRecDepth 100000 in
theorem lifted (os : Os) (started : os.Started) (H : Type) (enc : TypeId × Value → H) (F : Stop.Interp) :
    ReturnsInHanded {} Try.checked os 9 .any ((Rows.OpenSpec.upto Rows.senderLosesSpec).pre6 enc Try.prog Try.f9 Rows.senderLosesUptoRow.domain false) (((Rows.OpenSpec.upto Rows.senderLosesSpec).at F).post enc Try.prog Try.f9 false true false false) :=
  U.law_lifted (C := Try.checked) (s := Rows.senderLosesSpec) (by kernel_rfl) started (by kernel_rfl) Try.func9
    (OpenSpec.witness (enc := enc) (C := Try.checked) (s := Rows.OpenSpec.upto Rows.senderLosesSpec) (k := Rows.uptoSmall) rfl false ⟨#[], #[.agg #[.slice none 0 0, .bool false, .int .i64 0, .int .i64 0, .slice none 0 0, .slice none 0 0, .bool false, .bool false], .int .i64 0, .int .i64 0, .bool false], []⟩ 8 (by kernel_rfl) (by kernel_rfl) (by kernel_rfl)
      (x := ([.agg [.nil, .lit (.bool false), .lit (.int .i64 0), .lit (.int .i64 0), .nil, .nil, .lit (.bool false), .lit (.bool false)], .lit (.int .i64 0), .lit (.int .i64 0), .lit (.bool false)], [], [])) (by kernel_rfl) rfl (by kernel_rfl))
    (by kernel_rfl) rfl (fun ds hd => by
      match ds, hd with
      | [_, _, _, _], _ => rfl) rfl Try.underlying4 (by kernel_rfl) (by kernel_rfl)
    (fun W args h => by
      rw [Try.params9] at h
      obtain ⟨v0, l0, e0, h0, r0⟩ := h
      obtain ⟨v1, l1, e1, h1, r1⟩ := r0
      obtain ⟨v2, l2, e2, h2, r2⟩ := r1
      obtain ⟨v3, l3, e3, h3, r3⟩ := r2
      have r3' : l3 = [] := r3
      obtain rfl : args = #[v0, v1, v2, v3] := by
        apply Array.toList_inj.1
        rw [e0, e1, e2, e3, r3']
      exact walk W v0 v1 v2 v3 h0 h1 h2 h3)

theorem over : Rows.senderLosesUptoRow.holds Try.pinned (Rows.OpenSpec.upto Rows.senderLosesSpec) :=
  OpenClaim.holds_of_cond 9 Try.f9 rfl rfl rfl rfl rfl rfl rfl ⟨rfl, rfl, rfl, rfl, rfl⟩ rfl rfl rfl rfl rfl (by kernel_rfl) Try.func9 (by kernel_rfl)
    (of_decide_eq_true (by kernel_rfl)) (by unfold Func.isWrapper; first | (rw [if_pos (by decide +kernel)]; kernel_rfl) | (rw [if_neg (by decide +kernel)]; exact ⟨rfl, rfl⟩))
    (fun os started H enc _ F => lifted os started H enc F)

theorem proved : Rows.SenderLosesUptoSaid := over
#print axioms proved

end Go.Proofs.Ytnbbnedpjfanoaa.senderLosesUpto
