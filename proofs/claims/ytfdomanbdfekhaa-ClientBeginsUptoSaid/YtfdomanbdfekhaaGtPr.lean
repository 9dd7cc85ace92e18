/-
  The reference's PacketOf: what it answers. No condition.
-/
import Derived.Test.YtfdomanbdfekhaaGA
import Derived.Test.YtfdomanbdfekhaaGtP
set_option linter.unusedVariables false
set_option linter.unusedSimpArgs false
set_option linter.unusedVariables false
namespace Go.Proofs.Ytfdomanbdfekhaa
set_option maxRecDepth 100000
attribute [local irreducible] Run RunL QStep GStep Fn Less PL FnM

theorem wrapN {n : Nat} (h : n < 9223372036854775808) : IntKind.i64.wrap (n : Int) = (n : Int) := by rw [IntKind.wrap_i64]; omega
set_option maxHeartbeats 8000000 in
theorem packetOf_fn (key : Int) (h : DHead) (n acked : Int) (l : List DFrame) (hw : wfHead h) (hn : I64 n) (ha : I64 acked) (hl : ∀ f ∈ l, wfFrame f) (hll : l.length ≤ 1048576) : Fn Try.prog 72 [.lit (.int .u64 key), .agg (encHead h), .lit (.int .i64 n), .lit (.int .i64 acked), .ro (l.map encFrame)] (encPk (pktR key h n acked l)) := by
  have h1 := cutNumber_fn n acked hn ha
  have hcl := cutR_len (n := n) (d := acked)
  unfold pktR encPk
  unfold encCut at h1
  generalize cutR n acked = c at *
  obtain ⟨c, ce⟩ := c
  dsimp only at *
  by_cases c0 : ce = 0
  · subst c0
    rw [if_neg (by omega)]
    have hw2 := pkH_wf hw hcl
    have h2 := num_fn c (by omega)
    have hg := numG_lt 0 c
    have hp : (0 + 1) * 256 ^ c.length ≤ 1 * 256 ^ 4 := Nat.mul_le_mul (by omega) (Nat.pow_le_pow_right (by omega) (by omega))
    have h7 : 1 * (256 : Nat) ^ 4 = 4294967296 := by decide
    obtain ⟨K, T, F, tok, N, S⟩ := h
    unfold pkH at *
    unfold encHead
    dsimp only at *
    generalize hH : (⟨K, T, F, tok, ((numG 0 c : Nat) : Int), (c.length : Int)⟩ : DHead) = H at *
    have hC : encHead H = [.lit (.int .i64 K), .lit (.int .i64 T), .lit (.int .i64 F), .ro (tok.map encB), .lit (.int .i64 ((numG 0 c : Nat) : Int)), .lit (.int .i64 c.length)] := by rw [← hH]; rfl
    have h3 := headFault_fn H hw2
    rw [hC] at h3
    have hwn := wrapN (n := numG 0 c) (by omega)
    generalize numG 0 c = m at *
    clear hp h7
    by_cases hf : hdFlt H = 0
    · rw [if_neg (by omega)]
      rw [hf] at h3
      have h4 := headText_fn H hf
      rw [hC] at h4
      have hbl := hdB_len hf
      generalize hdB H = hb at *
      have hz : frsFlt (l.drop 0) = frsFlt l := rfl
      generalize hE : frsFlt l = E at *
      refine fn_of_run (by kernel_rfl) Try.func72 rfl (by kernel_rfl) ?_
      (repeat' first | (refine s_call (h1) (h := ?_)) | (refine p_call (h1) (h := ?_)) | (refine s_call (h2) (h := ?_)) | (refine p_call (h2) (h := ?_)) | (refine go_ ?_; ((repeat' first | exact True.intro | refine Two.mk ?_ ?_); all_goals intros)) | fail "")
      rw [hwn]
      (repeat' first | (refine s_call (h3) (h := ?_)) | (refine p_call (h3) (h := ?_)) | (refine go_ ?_; ((repeat' first | exact True.intro | refine Two.mk ?_ ?_); all_goals intros)) | fail "")
      refine r_for (fun x : Nat × List UInt8 => ⟨[(0, .lit (.int .u64 key)), (2, .lit (.int .i64 n)), (6, .ptr 0 0 0 0), (15, .lit (.string (strB x.2))), (42, .ro (l.map encFrame)), (43, .lit (.int .i64 l.length)), (44, .lit (.int .i64 x.1))], [(0, some (.box 119 [.lit (.int .i64 K), .lit (.int .i64 T), .lit (.int .i64 F), .ro (tok.map encB), .lit (.int .i64 (m : Int)), .lit (.int .i64 c.length)]))], 1, Try.f72.ntmps⟩)
        (fun x => x.1 ≤ l.length ∧ frsFlt (l.drop x.1) = E ∧ x.2 = frsB (l.take x.1) ∧ x.2.length ≤ 1000 * x.1) (fun x => l.length - x.1) (0, []) ⟨Nat.zero_le _, hz, rfl, Nat.zero_le _⟩ less_to ?_
      rintro ⟨k, tx⟩ ⟨hk, hke, htx, hkl⟩
      dsimp only at hk hke htx hkl ⊢
      by_cases hkn : k < l.length
      · obtain ⟨q1, q2⟩ := frs_step hkn hke
        have hfw := hl _ (getD_mem hkn)
        have hbs := frsB_step hkn
        have g1 := frameFault_fn _ hfw
        by_cases hff : frFlt (l.getD k default) = 0
        · have g2 := frameText_fn _ hff
          have g3 := frB_len hff
          have q2 := q2 hff
          rw [hff] at g1
          rw [← htx] at hbs
          generalize frB (l.getD k default) = fb at *
          have hnl : (tx ++ fb).length ≤ 1000 * (k + 1) := by rw [List.length_append]; omega
          (repeat' first | (refine s_call (g1) (h := ?_)) | (refine p_call (g1) (h := ?_)) | (refine s_call (g2) (h := ?_)) | (refine p_call (g2) (h := ?_)) | (refine go_ ?_; ((repeat' first | exact True.intro | refine Two.mk ?_ ?_); all_goals intros)) | fail "")
          all_goals first
            | (refine ⟨(k + 1, tx ++ fb), ?_, ?_, ?_⟩; rotate_left 2; (exact lessA_); (focus (dsimp only; omega)); (focus (exact ⟨hkn, q2, hbs.symm, hnl⟩)))
            | skip
        · have q1 := q1 hff
          rw [← q1] at g1 hff
          rw [if_pos hff]
          (repeat' first | (refine s_call (g1) (h := ?_)) | (refine p_call (g1) (h := ?_)) | (refine go_ ?_; ((repeat' first | exact True.intro | refine Two.mk ?_ ?_); all_goals intros)) | fail "")
          all_goals first
            | (exact endwA_)
            | skip
      · have hkl2 : k = l.length := by omega
        subst hkl2
        rw [List.drop_length] at hke
        have hE0 : E = 0 := hke.symm
        subst hE0
        rw [if_neg (by omega)]
        rw [List.take_length] at htx
        rw [← htx]
        have g3 := locked_fn key n hb tx (by omega) (by omega)
        have g4 : (sealB key n hb tx).length = tx.length + 8 := by unfold sealB; rw [List.length_append, turnB_length, tagB_length]
        generalize sealB key n hb tx = sb at *
        by_cases hs : 400 < hb.length + tx.length + 8
        · rw [if_pos hs]
          (repeat' first | (refine s_call (h4) (h := ?_)) | (refine p_call (h4) (h := ?_)) | (refine s_call (g3) (h := ?_)) | (refine p_call (g3) (h := ?_)) | (refine go_ ?_; ((repeat' first | exact True.intro | refine Two.mk ?_ ?_); all_goals intros)) | fail "")
          all_goals first
            | (exact endwA_)
            | skip
        · rw [if_neg hs]
          (repeat' first | (refine s_call (h4) (h := ?_)) | (refine p_call (h4) (h := ?_)) | (refine s_call (g3) (h := ?_)) | (refine p_call (g3) (h := ?_)) | (refine go_ ?_; ((repeat' first | exact True.intro | refine Two.mk ?_ ?_); all_goals intros)) | fail "")
          all_goals first
            | (exact endwA_)
            | skip
    · rw [if_pos hf]
      generalize hdFlt H = e at *
      refine fn_of_run (by kernel_rfl) Try.func72 rfl (by kernel_rfl) ?_
      (repeat' first | (refine s_call (h1) (h := ?_)) | (refine p_call (h1) (h := ?_)) | (refine s_call (h2) (h := ?_)) | (refine p_call (h2) (h := ?_)) | (refine go_ ?_; ((repeat' first | exact True.intro | refine Two.mk ?_ ?_); all_goals intros)) | fail "")
      rw [hwn]
      (repeat' first | (refine s_call (h3) (h := ?_)) | (refine p_call (h3) (h := ?_)) | (refine go_ ?_; ((repeat' first | exact True.intro | refine Two.mk ?_ ?_); all_goals intros)) | fail "")
      all_goals first
        | (exact endwA_)
        | skip
  · rw [if_pos c0]
    refine fn_of_run (by kernel_rfl) Try.func72 rfl (by kernel_rfl) ?_
    (repeat' first | (refine s_call (h1) (h := ?_)) | (refine p_call (h1) (h := ?_)) | (refine go_ ?_; ((repeat' first | exact True.intro | refine Two.mk ?_ ?_); all_goals intros)) | fail "")
    all_goals first
      | (exact endwA_)
      | skip
end Go.Proofs.Ytfdomanbdfekhaa
