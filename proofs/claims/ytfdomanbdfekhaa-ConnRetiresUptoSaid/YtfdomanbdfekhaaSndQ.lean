/-
  The reference's SenderOver: what it answers.
-/
import Derived.Test.YtfdomanbdfekhaaGo
import Derived.Test.YtfdomanbdfekhaaSndF
import Derived.Test.YtfdomanbdfekhaaSndP
set_option linter.unusedVariables false
set_option linter.unusedSimpArgs false
set_option linter.unusedVariables false
namespace Go.Proofs.Ytfdomanbdfekhaa
set_option maxRecDepth 100000
attribute [local irreducible] Run RunL QStep GStep Fn Less PL

set_option maxHeartbeats 4000000 in
theorem senderOverRef_fn (s : DSender) (hw : U.wfSender s) : Fn Try.prog 65 [.agg (encSender s)] (.tup [.lit (.bool (ovB s)), .lit (.int .i64 (sndFlt s))]) := by
  have h1 := senderFault_fn s hw
  have u6 := hw.2.2.2.2.2.1
  clear hw
  rcases sndFlt_cases s with ⟨h0, hok⟩ | ⟨h0, hbad⟩
  · rw [h0] at h1 ⊢
    have hb : ovB s = yes (overP s) := by unfold ovB; by_cases h : overP s; rw [yes_of h, yes_of ⟨hok, h⟩]; rw [no_of h, no_of (fun q => h q.2)]
    rw [hb]
    have hh := hok.1.1.1
    have hs := rFlt_set hh.2.2.2.2.2.2.1
    have hlow := (lastLow_iff hs).1 hok.1.2
    have hn : s.Next ≤ s.Data.length ∧ s.Data.length ≤ 600 := by unfold sndHead at hh; omega
    clear hb hok hh
    obtain ⟨data, fin, next, mx, lost, acked, en, ov⟩ := s
    unfold overP
    dsimp only at *
    dsimp only [encSender] at h1 ⊢
    by_cases hd : data.length = 0
    · obtain rfl : acked = [] := by
        rcases acked with _ | ⟨x, l⟩
        · rfl
        · have := (rSet_good hs x (by simp)).1
          have := hlow x (by simp)
          unfold rGood at *
          omega
      refine fn_of_run (by kernel_rfl) Try.func65 rfl (by kernel_rfl) ?_
      (repeat' first | (refine s_call (h1) (h := ?_)) | (refine p_call (h1) (h := ?_)) | (refine go_ ?_; ((repeat' first | exact True.intro | refine Two.mk ?_ ?_); all_goals intros)) | fail "")
      refine r_for (fun _ : Unit => ⟨[(1, .ptr 0 0 0 0), (5, .lit (.slice none 0 0)), (24, .ro []), (25, .lit (.int .i64 0)), (26, .lit (.int .i64 0))], [(0, some (.box 99 [.ro (data.map encB), .lit (.bool fin), .lit (.int .i64 next), .lit (.int .i64 mx), .ro (lost.map encRange), .ro [], .lit (.bool en), .lit (.bool ov)]))], 1, Try.f65.ntmps⟩) (fun _ => True) (fun _ => 0) () trivial less_to ?_
      intro _ _
      cases ov
      · (repeat' first | (refine go_ ?_; ((repeat' first | exact True.intro | refine Two.mk ?_ ?_); all_goals intros)) | fail "")
        all_goals (refine ends_ (hr := ?_); rw [no_of (fun h => by cases h.1)])
      · (repeat' first | (refine go_ ?_; ((repeat' first | exact True.intro | refine Two.mk ?_ ?_); all_goals intros)) | fail "")
        all_goals (refine ends_ (hr := ?_); rw [yes_of ⟨rfl, .inl hd⟩])
    · have hov := over_iff (n := data.length) hs (by omega) (by omega) (fun x hx => by have := hlow x hx; omega)
      have hset := fun k hk => hol_set (l := acked) (r := ⟨0, (data.length : Int) - 1⟩) hs (by unfold rGood; dsimp only; omega) k hk
      refine fn_of_run (by kernel_rfl) Try.func65 rfl (by kernel_rfl) ?_
      (repeat' first | (refine s_call (h1) (h := ?_)) | (refine p_call (h1) (h := ?_)) | (refine s_litR (r := [DRange.mk 0 ((data.length : Int) - 1)].map encRange) (hr := ?_) (h := ?_); (focus (rfl))) | (refine goI_ ?_; ((repeat' first | exact True.intro | refine Two.mk ?_ ?_); all_goals intros)) | refine s_i (h := ?_) | refine s_i (hq := q_index_ro rfl rfl rfl (by first | exact lit0 | exact lit1 | exact lit2 | exact lit3 | rfl) (by simp only [List.length_cons, List.length_nil]; omega) rfl rfl rfl rfl) (h := ?_) | refine p_i (h := ?_) | refine p_ih (h := ?_) | refine s_lit (h := ?_) | refine p_lit (h := ?_) | refine p_lit0 (h := ?_) | refine s_lit0 (h := ?_) | refine s_ixa (h := ?_) | refine s_insert (h := ?_) | ((first | refine s_sadd rfl ?_ (h := ?_) | refine p_sadd rfl ?_ (h := ?_)); (focus (first | omega | (simp only [List.length_append, List.length_map, List.length_cons, List.length_nil, List.length_take, List.length_drop]; omega)))) | fail "")
      refine r_for (fun k : Nat => ⟨[(1, .ptr 0 0 0 0), (5, .ro ((hol acked ⟨0, (data.length : Int) - 1⟩ k).map encRange)), (24, .ro (acked.map encRange)), (25, .lit (.int .i64 acked.length)), (26, .lit (.int .i64 k))], [(0, some (.box 99 [.ro (data.map encB), .lit (.bool fin), .lit (.int .i64 next), .lit (.int .i64 mx), .ro (lost.map encRange), .ro (acked.map encRange), .lit (.bool en), .lit (.bool ov)]))], 1, Try.f65.ntmps⟩)
        (fun k => k ≤ acked.length) (fun k => acked.length - k) 0 (Nat.zero_le _) less_to ?_
      intro k hk
      by_cases hkn : k < acked.length
      · have hq := hset k hk
        have hwo := without_fn (hol acked ⟨0, (data.length : Int) - 1⟩ k) (acked.getD k default) hq.1 (rSet_good hs _ (getD_mem hkn)).1 (by omega)
        rw [← hol_snoc hkn] at hwo
        (repeat' first | (refine s_call (hwo) (h := ?_)) | (refine p_call (hwo) (h := ?_)) | (refine go_ ?_; ((repeat' first | exact True.intro | refine Two.mk ?_ ?_); all_goals intros)) | fail "")
        all_goals (refine ⟨k + 1, ?_, ?_, ?_⟩; rotate_left 2; (exact lessA_); (focus (omega)); (focus (exact hkn)))
      · have hkl : k = acked.length := by omega
        subst hkl
        have hq := (hset acked.length hk).2
        clear h1 hset
        cases ov
        · (repeat' first | (refine go_ ?_; ((repeat' first | exact True.intro | refine Two.mk ?_ ?_); all_goals intros)) | fail "")
          all_goals (refine ends_ (hr := ?_); rw [no_of (fun h => by cases h.1)])
        · by_cases he : hol acked ⟨0, (data.length : Int) - 1⟩ acked.length = []
          · have hl0 : (hol acked ⟨0, (data.length : Int) - 1⟩ acked.length).length = 0 := by rw [he]; rfl
            (repeat' first | (refine go_ ?_; ((repeat' first | exact True.intro | refine Two.mk ?_ ?_); all_goals intros)) | fail "")
            all_goals (refine ends_ (hr := ?_); rw [yes_of ⟨rfl, .inr (hov.1 he)⟩])
          · have hl0 : 0 < (hol acked ⟨0, (data.length : Int) - 1⟩ acked.length).length := List.length_pos_iff.2 he
            (repeat' first | (refine go_ ?_; ((repeat' first | exact True.intro | refine Two.mk ?_ ?_); all_goals intros)) | fail "")
            all_goals (refine ends_ (hr := ?_); rw [no_of (fun h => by rcases h.2 with h | h; exact hd h; exact he (hov.2 h))])
  · rw [h0] at h1 ⊢
    rw [show ovB s = false from no_of (fun h => hbad h.1)]
    refine fn_of_run (by kernel_rfl) Try.func65 rfl (by kernel_rfl) ?_
    (repeat' first | (refine s_call (h1) (h := ?_)) | (refine p_call (h1) (h := ?_)) | (refine go_ ?_; ((repeat' first | exact True.intro | refine Two.mk ?_ ?_); all_goals intros)) | fail "")
    all_goals exact ends_ (hr := rfl)
end Go.Proofs.Ytfdomanbdfekhaa
