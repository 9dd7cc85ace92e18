/-
  SEVERAL TEXTS IN ONE: each with its own comment.
-/
import Derived.Test.YtfdomanbdfekhaaGA
import Derived.Test.YtfdomanbdfekhaaGC
import Derived.Test.YtfdomanbdfekhaaProg
import Derived.Test.YtfdomanbdfekhaaGI
/-
  space.frames and space.fresh: copies. No condition.
-/
set_option linter.unusedVariables false
set_option linter.unusedSimpArgs false
set_option linter.unusedVariables false
namespace Go.Proofs.Ytfdomanbdfekhaa
set_option maxRecDepth 100000
attribute [local irreducible] Run RunL QStep GStep Fn Less PL FnM

set_option maxHeartbeats 1000000 in
theorem frames_fn (l : List DFrame) (hw : ∀ y, y ∈ l → wfFrame y) (hl : l.length * 88 ≤ 140737488351232) : Fn Try.prog 127 [.ro (l.map encFrame)] (.ro (l.map encFrame)) := by
  refine fn_of_run (by kernel_rfl) Try.func127 rfl (by kernel_rfl) ?_
  (repeat' first | (refine go_ ?_; ((repeat' first | exact True.intro | refine Two.mk ?_ ?_); all_goals intros)) | fail "")
  refine r_for (fun k : Nat => ⟨[(6, .ro (l.map encFrame)), (7, .lit (.int .i64 l.length)), (8, .lit (.int .i64 k)), (3, .own 0)], [(0, some (.row 115 7 ((l.take k).map encFrame)))], 1, Try.f127.ntmps⟩)
    (fun k => k ≤ l.length) (fun k => l.length - k) 0 (Nat.zero_le _) ((less_own (n := 0) (t := 3) 115 7 rfl rfl rfl).trans less_to) ?_
  intro k hk
  by_cases hkn : k < l.length
  · have hf := hw _ (getD_mem hkn)
    have hr := hf.2.2.2.2.1
    have hd := hf.2.2.2.2.2.2
    (repeat' first | (refine s_app (r := (l.take (k + 1)).map encFrame) ?_ ?_ ?_ ?_ (h := ?_); (focus (first | with_reducible rfl | with_reducible exact List.nil_append _ | with_reducible exact (List.map_append ..).symm | (rw [take_snoc (by assumption), List.map_append]; rfl) | (rw [List.map_append]; rfl) | (simp; done))); (focus (first | exact len_none | exact len_one rfl | exact len_two rfl rfl | exact len_enc (fun _ => rfl))); (focus ((conv => lhs; rhs; whnf); simp only [List.length_map, List.length_append, List.length_cons, List.length_nil, List.length_take]; omega)); (focus (simp only [List.length_map, List.length_append, List.length_cons, List.length_nil, List.length_take]; omega))) | (refine s_app0R (r := (l.take (k + 1)).map encFrame) ?_ ?_ ?_ ?_ (h := ?_); (focus (first | with_reducible rfl | with_reducible exact List.nil_append _ | with_reducible exact (List.map_append ..).symm | (rw [take_snoc (by assumption), List.map_append]; rfl) | (rw [List.map_append]; rfl) | (simp; done))); (focus (first | exact len_none | exact len_one rfl | exact len_two rfl rfl | exact len_enc (fun _ => rfl))); (focus ((conv => lhs; rhs; whnf); simp only [List.length_map, List.length_append, List.length_cons, List.length_nil, List.length_take]; omega)); (focus (simp only [List.length_map, List.length_append, List.length_cons, List.length_nil, List.length_take]; omega))) | (refine p_app (r := (l.take (k + 1)).map encFrame) ?_ ?_ ?_ ?_ (h := ?_); (focus (first | with_reducible rfl | with_reducible exact List.nil_append _ | with_reducible exact (List.map_append ..).symm | (rw [take_snoc (by assumption), List.map_append]; rfl) | (rw [List.map_append]; rfl) | (simp; done))); (focus (first | exact len_none | exact len_one rfl | exact len_two rfl rfl | exact len_enc (fun _ => rfl))); (focus ((conv => lhs; rhs; whnf); simp only [List.length_map, List.length_append, List.length_cons, List.length_nil, List.length_take]; omega)); (focus (simp only [List.length_map, List.length_append, List.length_cons, List.length_nil, List.length_take]; omega))) | (refine p_app0R (r := (l.take (k + 1)).map encFrame) ?_ ?_ ?_ ?_ (h := ?_); (focus (first | with_reducible rfl | with_reducible exact List.nil_append _ | with_reducible exact (List.map_append ..).symm | (rw [take_snoc (by assumption), List.map_append]; rfl) | (rw [List.map_append]; rfl) | (simp; done))); (focus (first | exact len_none | exact len_one rfl | exact len_two rfl rfl | exact len_enc (fun _ => rfl))); (focus ((conv => lhs; rhs; whnf); simp only [List.length_map, List.length_append, List.length_cons, List.length_nil, List.length_take]; omega)); (focus (simp only [List.length_map, List.length_append, List.length_cons, List.length_nil, List.length_take]; omega))) | (refine s_appro (r := (l.getD k default).Ranges.map encRange) ?_ ?_ ?_ ?_ (h := ?_); (focus (first | with_reducible rfl | with_reducible exact List.nil_append _ | with_reducible exact (List.map_append ..).symm | (rw [take_snoc (by assumption), List.map_append]; rfl) | (rw [List.map_append]; rfl) | (simp; done))); (focus (first | exact len_none | exact len_one rfl | exact len_two rfl rfl | exact len_enc (fun _ => rfl))); (focus ((conv => lhs; rhs; whnf); simp only [List.length_map, List.length_append, List.length_cons, List.length_nil, List.length_take]; omega)); (focus (simp only [List.length_map, List.length_append, List.length_cons, List.length_nil, List.length_take]; omega))) | (refine s_app0roR (r := (l.getD k default).Ranges.map encRange) ?_ ?_ ?_ ?_ (h := ?_); (focus (first | with_reducible rfl | with_reducible exact List.nil_append _ | with_reducible exact (List.map_append ..).symm | (rw [take_snoc (by assumption), List.map_append]; rfl) | (rw [List.map_append]; rfl) | (simp; done))); (focus (first | exact len_none | exact len_one rfl | exact len_two rfl rfl | exact len_enc (fun _ => rfl))); (focus ((conv => lhs; rhs; whnf); simp only [List.length_map, List.length_append, List.length_cons, List.length_nil, List.length_take]; omega)); (focus (simp only [List.length_map, List.length_append, List.length_cons, List.length_nil, List.length_take]; omega))) | (refine p_appro (r := (l.getD k default).Ranges.map encRange) ?_ ?_ ?_ ?_ (h := ?_); (focus (first | with_reducible rfl | with_reducible exact List.nil_append _ | with_reducible exact (List.map_append ..).symm | (rw [take_snoc (by assumption), List.map_append]; rfl) | (rw [List.map_append]; rfl) | (simp; done))); (focus (first | exact len_none | exact len_one rfl | exact len_two rfl rfl | exact len_enc (fun _ => rfl))); (focus ((conv => lhs; rhs; whnf); simp only [List.length_map, List.length_append, List.length_cons, List.length_nil, List.length_take]; omega)); (focus (simp only [List.length_map, List.length_append, List.length_cons, List.length_nil, List.length_take]; omega))) | (refine p_app0roR (r := (l.getD k default).Ranges.map encRange) ?_ ?_ ?_ ?_ (h := ?_); (focus (first | with_reducible rfl | with_reducible exact List.nil_append _ | with_reducible exact (List.map_append ..).symm | (rw [take_snoc (by assumption), List.map_append]; rfl) | (rw [List.map_append]; rfl) | (simp; done))); (focus (first | exact len_none | exact len_one rfl | exact len_two rfl rfl | exact len_enc (fun _ => rfl))); (focus ((conv => lhs; rhs; whnf); simp only [List.length_map, List.length_append, List.length_cons, List.length_nil, List.length_take]; omega)); (focus (simp only [List.length_map, List.length_append, List.length_cons, List.length_nil, List.length_take]; omega))) | (refine s_appro (r := (l.getD k default).Data.map encB) ?_ ?_ ?_ ?_ (h := ?_); (focus (first | with_reducible rfl | with_reducible exact List.nil_append _ | with_reducible exact (List.map_append ..).symm | (rw [take_snoc (by assumption), List.map_append]; rfl) | (rw [List.map_append]; rfl) | (simp; done))); (focus (first | exact len_none | exact len_one rfl | exact len_two rfl rfl | exact len_enc (fun _ => rfl))); (focus ((conv => lhs; rhs; whnf); simp only [List.length_map, List.length_append, List.length_cons, List.length_nil, List.length_take]; omega)); (focus (simp only [List.length_map, List.length_append, List.length_cons, List.length_nil, List.length_take]; omega))) | (refine s_app0roR (r := (l.getD k default).Data.map encB) ?_ ?_ ?_ ?_ (h := ?_); (focus (first | with_reducible rfl | with_reducible exact List.nil_append _ | with_reducible exact (List.map_append ..).symm | (rw [take_snoc (by assumption), List.map_append]; rfl) | (rw [List.map_append]; rfl) | (simp; done))); (focus (first | exact len_none | exact len_one rfl | exact len_two rfl rfl | exact len_enc (fun _ => rfl))); (focus ((conv => lhs; rhs; whnf); simp only [List.length_map, List.length_append, List.length_cons, List.length_nil, List.length_take]; omega)); (focus (simp only [List.length_map, List.length_append, List.length_cons, List.length_nil, List.length_take]; omega))) | (refine p_appro (r := (l.getD k default).Data.map encB) ?_ ?_ ?_ ?_ (h := ?_); (focus (first | with_reducible rfl | with_reducible exact List.nil_append _ | with_reducible exact (List.map_append ..).symm | (rw [take_snoc (by assumption), List.map_append]; rfl) | (rw [List.map_append]; rfl) | (simp; done))); (focus (first | exact len_none | exact len_one rfl | exact len_two rfl rfl | exact len_enc (fun _ => rfl))); (focus ((conv => lhs; rhs; whnf); simp only [List.length_map, List.length_append, List.length_cons, List.length_nil, List.length_take]; omega)); (focus (simp only [List.length_map, List.length_append, List.length_cons, List.length_nil, List.length_take]; omega))) | (refine p_app0roR (r := (l.getD k default).Data.map encB) ?_ ?_ ?_ ?_ (h := ?_); (focus (first | with_reducible rfl | with_reducible exact List.nil_append _ | with_reducible exact (List.map_append ..).symm | (rw [take_snoc (by assumption), List.map_append]; rfl) | (rw [List.map_append]; rfl) | (simp; done))); (focus (first | exact len_none | exact len_one rfl | exact len_two rfl rfl | exact len_enc (fun _ => rfl))); (focus ((conv => lhs; rhs; whnf); simp only [List.length_map, List.length_append, List.length_cons, List.length_nil, List.length_take]; omega)); (focus (simp only [List.length_map, List.length_append, List.length_cons, List.length_nil, List.length_take]; omega))) | (refine go_ ?_; ((repeat' first | exact True.intro | refine Two.mk ?_ ?_); all_goals intros)) | fail "")
    all_goals (refine ⟨k + 1, ?_, ?_, ?_⟩; rotate_left 2; (exact lessA_); (focus (omega)); (focus (exact hkn)))
  · (repeat' first | (refine go_ ?_; ((repeat' first | exact True.intro | refine Two.mk ?_ ?_); all_goals intros)) | fail "")
    all_goals (refine ends_ (hr := ?_); rw [List.take_of_length_le (by omega)])
set_option maxHeartbeats 1000000 in
theorem fresh_fnm (s : DSpace) (hw : wfSpace s) :
    FnM Try.prog 126 [.agg (encSpace s)] [] 0 (.agg [.lit (.int .i64 s.Next), .own 0, .lit (.int .i64 s.Top), .own 1, .own 2]) [(0, some (.row 145 4 (s.Sent.map encParcel))), (1, some (.row 153 2 (s.Heard.map encRange))), (2, some (.row 3 1 (s.Skip.map encI)))] 3 := by
  have hl := hw.2.1
  have hl2 := hw.2.2.2.2.1
  have hl3 := hw.2.2.2.2.2.2.1
  refine fnm_of_run (by kernel_rfl) Try.func126 rfl (by kernel_rfl) (by rfl) ?_
  (repeat' first | (refine go_ ?_; ((repeat' first | exact True.intro | refine Two.mk ?_ ?_); all_goals intros)) | fail "")
  refine r_for (fun k : Nat => ⟨[(1, .ptr 0 0 0 0), (2, .ptr 1 0 0 0), (7, .ro (s.Sent.map encParcel)), (8, .lit (.int .i64 s.Sent.length)), (9, .lit (.int .i64 k)), (3, .own 2)], [(0, some (.box 51 (encSpace s))), (1, some (.box 51 [.lit (.int .i64 0), .lit (.slice none 0 0), .lit (.int .i64 0), .lit (.slice none 0 0), .lit (.slice none 0 0)])), (2, some (.row 145 4 ((s.Sent.take k).map encParcel)))], 3, Try.f126.ntmps⟩)
    (fun k => k ≤ s.Sent.length) (fun k => s.Sent.length - k) 0 (Nat.zero_le _) ((less_own (n := 2) (t := 3) 145 4 rfl rfl rfl).trans less_to) ?_
  intro k hk
  by_cases hkn : k < s.Sent.length
  · have hf := hw.2.2.1 _ (getD_mem hkn)
    have h1 := frames_fn (s.Sent.getD k default).Frames hf.2.2.2.2 hf.2.2.2.1
    (repeat' first | (refine s_call (h1) (h := ?_)) | (refine p_call (h1) (h := ?_)) | (refine s_app (r := (s.Sent.take (k + 1)).map encParcel) ?_ ?_ ?_ ?_ (h := ?_); (focus (first | with_reducible rfl | with_reducible exact List.nil_append _ | with_reducible exact (List.map_append ..).symm | (rw [take_snoc (by assumption), List.map_append]; rfl) | (rw [List.map_append]; rfl) | (simp; done))); (focus (first | exact len_none | exact len_one rfl | exact len_two rfl rfl | exact len_enc (fun _ => rfl))); (focus ((conv => lhs; rhs; whnf); simp only [List.length_map, List.length_append, List.length_cons, List.length_nil, List.length_take]; omega)); (focus (simp only [List.length_map, List.length_append, List.length_cons, List.length_nil, List.length_take]; omega))) | (refine s_app0R (r := (s.Sent.take (k + 1)).map encParcel) ?_ ?_ ?_ ?_ (h := ?_); (focus (first | with_reducible rfl | with_reducible exact List.nil_append _ | with_reducible exact (List.map_append ..).symm | (rw [take_snoc (by assumption), List.map_append]; rfl) | (rw [List.map_append]; rfl) | (simp; done))); (focus (first | exact len_none | exact len_one rfl | exact len_two rfl rfl | exact len_enc (fun _ => rfl))); (focus ((conv => lhs; rhs; whnf); simp only [List.length_map, List.length_append, List.length_cons, List.length_nil, List.length_take]; omega)); (focus (simp only [List.length_map, List.length_append, List.length_cons, List.length_nil, List.length_take]; omega))) | (refine p_app (r := (s.Sent.take (k + 1)).map encParcel) ?_ ?_ ?_ ?_ (h := ?_); (focus (first | with_reducible rfl | with_reducible exact List.nil_append _ | with_reducible exact (List.map_append ..).symm | (rw [take_snoc (by assumption), List.map_append]; rfl) | (rw [List.map_append]; rfl) | (simp; done))); (focus (first | exact len_none | exact len_one rfl | exact len_two rfl rfl | exact len_enc (fun _ => rfl))); (focus ((conv => lhs; rhs; whnf); simp only [List.length_map, List.length_append, List.length_cons, List.length_nil, List.length_take]; omega)); (focus (simp only [List.length_map, List.length_append, List.length_cons, List.length_nil, List.length_take]; omega))) | (refine p_app0R (r := (s.Sent.take (k + 1)).map encParcel) ?_ ?_ ?_ ?_ (h := ?_); (focus (first | with_reducible rfl | with_reducible exact List.nil_append _ | with_reducible exact (List.map_append ..).symm | (rw [take_snoc (by assumption), List.map_append]; rfl) | (rw [List.map_append]; rfl) | (simp; done))); (focus (first | exact len_none | exact len_one rfl | exact len_two rfl rfl | exact len_enc (fun _ => rfl))); (focus ((conv => lhs; rhs; whnf); simp only [List.length_map, List.length_append, List.length_cons, List.length_nil, List.length_take]; omega)); (focus (simp only [List.length_map, List.length_append, List.length_cons, List.length_nil, List.length_take]; omega))) | (refine go_ ?_; ((repeat' first | exact True.intro | refine Two.mk ?_ ?_); all_goals intros)) | fail "")
    all_goals (refine ⟨k + 1, ?_, ?_, ?_⟩; rotate_left 2; (exact lessA_); (focus (omega)); (focus (exact hkn)))
  · have hkl : k = s.Sent.length := by omega
    subst hkl
    rw [List.take_length]
    (repeat' first | (refine s_app (r := s.Heard.map encRange) ?_ ?_ ?_ ?_ (h := ?_); (focus (first | with_reducible rfl | with_reducible exact List.nil_append _ | with_reducible exact (List.map_append ..).symm | (rw [take_snoc (by assumption), List.map_append]; rfl) | (rw [List.map_append]; rfl) | (simp; done))); (focus (first | exact len_none | exact len_one rfl | exact len_two rfl rfl | exact len_enc (fun _ => rfl))); (focus ((conv => lhs; rhs; whnf); simp only [List.length_map, List.length_append, List.length_cons, List.length_nil, List.length_take]; omega)); (focus (simp only [List.length_map, List.length_append, List.length_cons, List.length_nil, List.length_take]; omega))) | (refine s_app0R (r := s.Heard.map encRange) ?_ ?_ ?_ ?_ (h := ?_); (focus (first | with_reducible rfl | with_reducible exact List.nil_append _ | with_reducible exact (List.map_append ..).symm | (rw [take_snoc (by assumption), List.map_append]; rfl) | (rw [List.map_append]; rfl) | (simp; done))); (focus (first | exact len_none | exact len_one rfl | exact len_two rfl rfl | exact len_enc (fun _ => rfl))); (focus ((conv => lhs; rhs; whnf); simp only [List.length_map, List.length_append, List.length_cons, List.length_nil, List.length_take]; omega)); (focus (simp only [List.length_map, List.length_append, List.length_cons, List.length_nil, List.length_take]; omega))) | (refine p_app (r := s.Heard.map encRange) ?_ ?_ ?_ ?_ (h := ?_); (focus (first | with_reducible rfl | with_reducible exact List.nil_append _ | with_reducible exact (List.map_append ..).symm | (rw [take_snoc (by assumption), List.map_append]; rfl) | (rw [List.map_append]; rfl) | (simp; done))); (focus (first | exact len_none | exact len_one rfl | exact len_two rfl rfl | exact len_enc (fun _ => rfl))); (focus ((conv => lhs; rhs; whnf); simp only [List.length_map, List.length_append, List.length_cons, List.length_nil, List.length_take]; omega)); (focus (simp only [List.length_map, List.length_append, List.length_cons, List.length_nil, List.length_take]; omega))) | (refine p_app0R (r := s.Heard.map encRange) ?_ ?_ ?_ ?_ (h := ?_); (focus (first | with_reducible rfl | with_reducible exact List.nil_append _ | with_reducible exact (List.map_append ..).symm | (rw [take_snoc (by assumption), List.map_append]; rfl) | (rw [List.map_append]; rfl) | (simp; done))); (focus (first | exact len_none | exact len_one rfl | exact len_two rfl rfl | exact len_enc (fun _ => rfl))); (focus ((conv => lhs; rhs; whnf); simp only [List.length_map, List.length_append, List.length_cons, List.length_nil, List.length_take]; omega)); (focus (simp only [List.length_map, List.length_append, List.length_cons, List.length_nil, List.length_take]; omega))) | (refine s_app (r := s.Skip.map encI) ?_ ?_ ?_ ?_ (h := ?_); (focus (first | with_reducible rfl | with_reducible exact List.nil_append _ | with_reducible exact (List.map_append ..).symm | (rw [take_snoc (by assumption), List.map_append]; rfl) | (rw [List.map_append]; rfl) | (simp; done))); (focus (first | exact len_none | exact len_one rfl | exact len_two rfl rfl | exact len_enc (fun _ => rfl))); (focus ((conv => lhs; rhs; whnf); simp only [List.length_map, List.length_append, List.length_cons, List.length_nil, List.length_take]; omega)); (focus (simp only [List.length_map, List.length_append, List.length_cons, List.length_nil, List.length_take]; omega))) | (refine s_app0R (r := s.Skip.map encI) ?_ ?_ ?_ ?_ (h := ?_); (focus (first | with_reducible rfl | with_reducible exact List.nil_append _ | with_reducible exact (List.map_append ..).symm | (rw [take_snoc (by assumption), List.map_append]; rfl) | (rw [List.map_append]; rfl) | (simp; done))); (focus (first | exact len_none | exact len_one rfl | exact len_two rfl rfl | exact len_enc (fun _ => rfl))); (focus ((conv => lhs; rhs; whnf); simp only [List.length_map, List.length_append, List.length_cons, List.length_nil, List.length_take]; omega)); (focus (simp only [List.length_map, List.length_append, List.length_cons, List.length_nil, List.length_take]; omega))) | (refine p_app (r := s.Skip.map encI) ?_ ?_ ?_ ?_ (h := ?_); (focus (first | with_reducible rfl | with_reducible exact List.nil_append _ | with_reducible exact (List.map_append ..).symm | (rw [take_snoc (by assumption), List.map_append]; rfl) | (rw [List.map_append]; rfl) | (simp; done))); (focus (first | exact len_none | exact len_one rfl | exact len_two rfl rfl | exact len_enc (fun _ => rfl))); (focus ((conv => lhs; rhs; whnf); simp only [List.length_map, List.length_append, List.length_cons, List.length_nil, List.length_take]; omega)); (focus (simp only [List.length_map, List.length_append, List.length_cons, List.length_nil, List.length_take]; omega))) | (refine p_app0R (r := s.Skip.map encI) ?_ ?_ ?_ ?_ (h := ?_); (focus (first | with_reducible rfl | with_reducible exact List.nil_append _ | with_reducible exact (List.map_append ..).symm | (rw [take_snoc (by assumption), List.map_append]; rfl) | (rw [List.map_append]; rfl) | (simp; done))); (focus (first | exact len_none | exact len_one rfl | exact len_two rfl rfl | exact len_enc (fun _ => rfl))); (focus ((conv => lhs; rhs; whnf); simp only [List.length_map, List.length_append, List.length_cons, List.length_nil, List.length_take]; omega)); (focus (simp only [List.length_map, List.length_append, List.length_cons, List.length_nil, List.length_take]; omega))) | (refine go_ ?_; ((repeat' first | exact True.intro | refine Two.mk ?_ ?_); all_goals intros)) | fail "")
    all_goals (exact endmA_)
end Go.Proofs.Ytfdomanbdfekhaa

/-
  space.Leap and space.Quiet, and the reference's: what each answers. No condition.
-/
set_option linter.unusedVariables false
set_option linter.unusedSimpArgs false
set_option linter.unusedVariables false
namespace Go.Proofs.Ytfdomanbdfekhaa
set_option maxRecDepth 100000
attribute [local irreducible] Run RunL QStep GStep Fn Less PL FnM

def spZero : DSpace := ⟨0, [], 0, [], []⟩
/-- P11.4 -/
noncomputable def spLeap (s : DSpace) : DSpace × Int := if spFlt s ≠ 0 then (spZero, spFlt s) else if s.Next = 4611686018427387903 then (spZero, 8) else (⟨s.Next + 1, s.Sent, s.Top, s.Heard, (s.Skip ++ [s.Next]).drop (s.Skip.length + 1 - 6)⟩, 0)
/-- P11.9 -/
noncomputable def spQuiet (s : DSpace) : DSpace × Int × Int := if spFlt s ≠ 0 then (spZero, 0, spFlt s) else if s.Next = 4611686018427387903 then (spZero, 0, 8) else (⟨s.Next + 1, s.Sent, s.Top, s.Heard, s.Skip⟩, s.Next, 0)
set_option maxHeartbeats 1000000 in
theorem quiet_fn (s : DSpace) (hw : wfSpace s) : Fn Try.prog 82 [.agg (encSpace s)] (.tup [.agg (encSpace (spQuiet s).1), .lit (.int .i64 (spQuiet s).2.1), .lit (.int .i64 (spQuiet s).2.2)]) := by
  have h1 := spaceCheck_fn s hw
  unfold spQuiet
  rcases spFlt_cases s with ⟨h0, ho⟩ | ⟨h0, ho⟩
  · rw [h0] at h1 ⊢
    rw [if_neg (by omega)]
    have hh := ho.1.1
    unfold spHead at hh
    have h2 := fresh_fnm s hw
    by_cases c1 : s.Next = 4611686018427387903
    · rw [if_pos c1]
      refine fn_of_run (by kernel_rfl) Try.func82 rfl (by kernel_rfl) ?_
      (repeat' first | (refine s_call (h1) (h := ?_)) | (refine p_call (h1) (h := ?_)) | (refine go_ ?_; ((repeat' first | exact True.intro | refine Two.mk ?_ ?_); all_goals intros)) | fail "")
      all_goals (exact endwA_)
    · rw [if_neg c1]
      refine fn_of_run (by kernel_rfl) Try.func82 rfl (by kernel_rfl) ?_
      (repeat' first | (refine s_call (h1) (h := ?_)) | (refine p_call (h1) (h := ?_)) | (refine s_callM [] (h2) (h := ?_)) | (refine s_callM0 [] (h2) (h := ?_)) | (refine p_callN (h2) (h := ?_)) | (refine go_ ?_; ((repeat' first | exact True.intro | refine Two.mk ?_ ?_); all_goals intros)) | fail "")
      all_goals (exact endwA_)
  · rw [h0] at h1 ⊢
    rw [if_pos (by omega)]
    refine fn_of_run (by kernel_rfl) Try.func82 rfl (by kernel_rfl) ?_
    (repeat' first | (refine s_call (h1) (h := ?_)) | (refine p_call (h1) (h := ?_)) | (refine go_ ?_; ((repeat' first | exact True.intro | refine Two.mk ?_ ?_); all_goals intros)) | fail "")
    all_goals (exact endwA_)
set_option maxHeartbeats 1000000 in
theorem quietRef_fn (s : DSpace) (hw : wfSpace s) : Fn Try.prog 128 [.agg (encSpace s)] (.tup [.agg (encSpace (spQuiet s).1), .lit (.int .i64 (spQuiet s).2.1), .lit (.int .i64 (spQuiet s).2.2)]) := by
  have h1 := spaceFault_fn s hw
  unfold spQuiet
  rcases spFlt_cases s with ⟨h0, ho⟩ | ⟨h0, ho⟩
  · rw [h0] at h1 ⊢
    rw [if_neg (by omega)]
    have hh := ho.1.1
    unfold spHead at hh
    by_cases c1 : s.Next = 4611686018427387903
    · rw [if_pos c1]
      refine fn_of_run (by kernel_rfl) Try.func128 rfl (by kernel_rfl) ?_
      (repeat' first | (refine s_call (h1) (h := ?_)) | (refine p_call (h1) (h := ?_)) | (refine go_ ?_; ((repeat' first | exact True.intro | refine Two.mk ?_ ?_); all_goals intros)) | fail "")
      all_goals (exact endwA_)
    · rw [if_neg c1]
      refine fn_of_run (by kernel_rfl) Try.func128 rfl (by kernel_rfl) ?_
      (repeat' first | (refine s_call (h1) (h := ?_)) | (refine p_call (h1) (h := ?_)) | (refine go_ ?_; ((repeat' first | exact True.intro | refine Two.mk ?_ ?_); all_goals intros)) | fail "")
      all_goals (exact endwA_)
  · rw [h0] at h1 ⊢
    rw [if_pos (by omega)]
    refine fn_of_run (by kernel_rfl) Try.func128 rfl (by kernel_rfl) ?_
    (repeat' first | (refine s_call (h1) (h := ?_)) | (refine p_call (h1) (h := ?_)) | (refine go_ ?_; ((repeat' first | exact True.intro | refine Two.mk ?_ ?_); all_goals intros)) | fail "")
    all_goals (exact endwA_)
theorem spQuiet_wf (s : DSpace) (hw : wfSpace s) : wfSpace (spQuiet s).1 := by
  have hz : wfSpace spZero := by unfold wfSpace spZero I64; simp
  unfold spQuiet
  rcases spFlt_cases s with ⟨h0, ho⟩ | ⟨h0, ho⟩
  · rw [h0, if_neg (by omega)]
    split
    · exact hz
    · have hh := ho.1.1
      unfold spHead at hh
      exact ⟨by unfold I64; dsimp only; omega, hw.2⟩
  · rw [h0, if_pos (by omega)]; exact hz
end Go.Proofs.Ytfdomanbdfekhaa

/-
  space.Send and the reference's: what each answers. No condition.
-/
set_option linter.unusedVariables false
set_option linter.unusedSimpArgs false
set_option linter.unusedVariables false
namespace Go.Proofs.Ytfdomanbdfekhaa
set_option maxRecDepth 100000
attribute [local irreducible] Run RunL QStep GStep Fn Less PL FnM

def sdBad (now size : Int) : Prop := ¬ (0 ≤ now ∧ now ≤ 1099511627776 ∧ 0 ≤ size ∧ size ≤ 400)
def sdFull (s : DSpace) : Prop := s.Sent.length = 24 ∨ s.Next = 4611686018427387903
instance (now size : Int) : Decidable (sdBad now size) := inferInstanceAs (Decidable (¬ _))
instance (s : DSpace) : Decidable (sdFull s) := inferInstanceAs (Decidable (_ ∨ _))
/-- P11.3 -/
noncomputable def spSend (s : DSpace) (now size : Int) (l : List DFrame) : DSpace × Int × Int :=
  if spFlt s ≠ 0 then (⟨0, [], 0, [], []⟩, 0, spFlt s) else if sdBad now size then (⟨0, [], 0, [], []⟩, 0, 6) else if sdFull s then (⟨0, [], 0, [], []⟩, 0, 8)
  else (⟨s.Next + 1, s.Sent ++ [⟨s.Next, now, size, l⟩], s.Top, s.Heard, s.Skip⟩, s.Next, 0)
set_option maxHeartbeats 1000000 in
theorem send_fn (s : DSpace) (now size : Int) (l : List DFrame) (hw : wfSpace s) (hl : l.length * 88 ≤ 140737488351232) (hf : ∀ y, y ∈ l → wfFrame y) : Fn Try.prog 81 [.agg (encSpace s), .lit (.int .i64 now), .lit (.int .i64 size), .ro (l.map encFrame)] (.tup [.agg (encSpace (spSend s now size l).1), .lit (.int .i64 (spSend s now size l).2.1), .lit (.int .i64 (spSend s now size l).2.2)]) := by
  have h1 := spaceCheck_fn s hw
  have h3 := frames_fn l hf hl
  unfold spSend
  rcases spFlt_cases s with ⟨h0, ho⟩ | ⟨h0, ho⟩
  · rw [h0] at h1 ⊢
    rw [if_neg (by omega)]
    have hh := ho.1.1
    unfold spHead at hh
    have h2 := fresh_fnm s hw
    by_cases c1 : sdBad now size
    · rw [if_pos c1]
      unfold sdBad at c1
      refine fn_of_run (by kernel_rfl) Try.func81 rfl (by kernel_rfl) ?_
      (repeat' first | (refine s_call (h1) (h := ?_)) | (refine p_call (h1) (h := ?_)) | (refine go_ ?_; ((repeat' first | exact True.intro | refine Two.mk ?_ ?_); all_goals intros)) | fail "")
      all_goals (exact endwA_)
    · rw [if_neg c1]
      unfold sdBad at c1
      by_cases c2 : sdFull s
      · rw [if_pos c2]
        unfold sdFull at c2
        refine fn_of_run (by kernel_rfl) Try.func81 rfl (by kernel_rfl) ?_
        (repeat' first | (refine s_call (h1) (h := ?_)) | (refine p_call (h1) (h := ?_)) | (refine go_ ?_; ((repeat' first | exact True.intro | refine Two.mk ?_ ?_); all_goals intros)) | fail "")
        all_goals (exact endwA_)
      · rw [if_neg c2]
        unfold sdFull at c2
        refine fn_of_run (by kernel_rfl) Try.func81 rfl (by kernel_rfl) ?_
        (repeat' first | (refine s_call (h1) (h := ?_)) | (refine p_call (h1) (h := ?_)) | (refine s_call (h3) (h := ?_)) | (refine p_call (h3) (h := ?_)) | (refine s_callM [] (h2) (h := ?_)) | (refine s_callM0 [] (h2) (h := ?_)) | (refine p_callN (h2) (h := ?_)) | (refine s_app (r := (s.Sent ++ [DParcel.mk s.Next now size l]).map encParcel) ?_ ?_ ?_ ?_ (h := ?_); (focus (first | with_reducible rfl | with_reducible exact List.nil_append _ | with_reducible exact (List.map_append ..).symm | (rw [take_snoc (by assumption), List.map_append]; rfl) | (rw [List.map_append]; rfl) | (simp; done))); (focus (first | exact len_none | exact len_one rfl | exact len_two rfl rfl | exact len_enc (fun _ => rfl))); (focus ((conv => lhs; rhs; whnf); simp only [List.length_map, List.length_append, List.length_cons, List.length_nil, List.length_take]; omega)); (focus (simp only [List.length_map, List.length_append, List.length_cons, List.length_nil, List.length_take]; omega))) | (refine s_app0R (r := (s.Sent ++ [DParcel.mk s.Next now size l]).map encParcel) ?_ ?_ ?_ ?_ (h := ?_); (focus (first | with_reducible rfl | with_reducible exact List.nil_append _ | with_reducible exact (List.map_append ..).symm | (rw [take_snoc (by assumption), List.map_append]; rfl) | (rw [List.map_append]; rfl) | (simp; done))); (focus (first | exact len_none | exact len_one rfl | exact len_two rfl rfl | exact len_enc (fun _ => rfl))); (focus ((conv => lhs; rhs; whnf); simp only [List.length_map, List.length_append, List.length_cons, List.length_nil, List.length_take]; omega)); (focus (simp only [List.length_map, List.length_append, List.length_cons, List.length_nil, List.length_take]; omega))) | (refine p_app (r := (s.Sent ++ [DParcel.mk s.Next now size l]).map encParcel) ?_ ?_ ?_ ?_ (h := ?_); (focus (first | with_reducible rfl | with_reducible exact List.nil_append _ | with_reducible exact (List.map_append ..).symm | (rw [take_snoc (by assumption), List.map_append]; rfl) | (rw [List.map_append]; rfl) | (simp; done))); (focus (first | exact len_none | exact len_one rfl | exact len_two rfl rfl | exact len_enc (fun _ => rfl))); (focus ((conv => lhs; rhs; whnf); simp only [List.length_map, List.length_append, List.length_cons, List.length_nil, List.length_take]; omega)); (focus (simp only [List.length_map, List.length_append, List.length_cons, List.length_nil, List.length_take]; omega))) | (refine p_app0R (r := (s.Sent ++ [DParcel.mk s.Next now size l]).map encParcel) ?_ ?_ ?_ ?_ (h := ?_); (focus (first | with_reducible rfl | with_reducible exact List.nil_append _ | with_reducible exact (List.map_append ..).symm | (rw [take_snoc (by assumption), List.map_append]; rfl) | (rw [List.map_append]; rfl) | (simp; done))); (focus (first | exact len_none | exact len_one rfl | exact len_two rfl rfl | exact len_enc (fun _ => rfl))); (focus ((conv => lhs; rhs; whnf); simp only [List.length_map, List.length_append, List.length_cons, List.length_nil, List.length_take]; omega)); (focus (simp only [List.length_map, List.length_append, List.length_cons, List.length_nil, List.length_take]; omega))) | (refine go_ ?_; ((repeat' first | exact True.intro | refine Two.mk ?_ ?_); all_goals intros)) | fail "")
        all_goals (exact endwA_)
  · rw [h0] at h1 ⊢
    rw [if_pos (by omega)]
    refine fn_of_run (by kernel_rfl) Try.func81 rfl (by kernel_rfl) ?_
    (repeat' first | (refine s_call (h1) (h := ?_)) | (refine p_call (h1) (h := ?_)) | (refine go_ ?_; ((repeat' first | exact True.intro | refine Two.mk ?_ ?_); all_goals intros)) | fail "")
    all_goals (exact endwA_)
set_option maxHeartbeats 1000000 in
theorem sent_fn (s : DSpace) (now size : Int) (l : List DFrame) (hw : wfSpace s) : Fn Try.prog 89 [.agg (encSpace s), .lit (.int .i64 now), .lit (.int .i64 size), .ro (l.map encFrame)] (.tup [.agg (encSpace (spSend s now size l).1), .lit (.int .i64 (spSend s now size l).2.1), .lit (.int .i64 (spSend s now size l).2.2)]) := by
  have h1 := spaceFault_fn s hw
  unfold spSend
  rcases spFlt_cases s with ⟨h0, ho⟩ | ⟨h0, ho⟩
  · rw [h0] at h1 ⊢
    rw [if_neg (by omega)]
    have hh := ho.1.1
    unfold spHead at hh
    by_cases c1 : sdBad now size
    · rw [if_pos c1]
      unfold sdBad at c1
      refine fn_of_run (by kernel_rfl) Try.func89 rfl (by kernel_rfl) ?_
      (repeat' first | (refine s_call (h1) (h := ?_)) | (refine p_call (h1) (h := ?_)) | (refine s_dec (upTo_fn _ _) (ht := ?_) (hff := ?_) <;> intro _ <;> try (exfalso; omega)) | (refine p_dec (upTo_fn _ _) (ht := ?_) (hff := ?_) <;> intro _ <;> try (exfalso; omega)) | (refine go_ ?_; ((repeat' first | exact True.intro | refine Two.mk ?_ ?_); all_goals intros)) | fail "")
      all_goals (exact endwA_)
    · rw [if_neg c1]
      unfold sdBad at c1
      by_cases c2 : sdFull s
      · rw [if_pos c2]
        unfold sdFull at c2
        refine fn_of_run (by kernel_rfl) Try.func89 rfl (by kernel_rfl) ?_
        (repeat' first | (refine s_call (h1) (h := ?_)) | (refine p_call (h1) (h := ?_)) | (refine s_dec (upTo_fn _ _) (ht := ?_) (hff := ?_) <;> intro _ <;> try (exfalso; omega)) | (refine p_dec (upTo_fn _ _) (ht := ?_) (hff := ?_) <;> intro _ <;> try (exfalso; omega)) | (refine go_ ?_; ((repeat' first | exact True.intro | refine Two.mk ?_ ?_); all_goals intros)) | fail "")
        all_goals (exact endwA_)
      · rw [if_neg c2]
        unfold sdFull at c2
        refine fn_of_run (by kernel_rfl) Try.func89 rfl (by kernel_rfl) ?_
        (repeat' first | (refine s_call (h1) (h := ?_)) | (refine p_call (h1) (h := ?_)) | (refine s_dec (upTo_fn _ _) (ht := ?_) (hff := ?_) <;> intro _ <;> try (exfalso; omega)) | (refine p_dec (upTo_fn _ _) (ht := ?_) (hff := ?_) <;> intro _ <;> try (exfalso; omega)) | (refine s_app (r := s.Sent.map encParcel) ?_ ?_ ?_ ?_ (h := ?_); (focus (first | with_reducible rfl | with_reducible exact List.nil_append _ | with_reducible exact (List.map_append ..).symm | (rw [take_snoc (by assumption), List.map_append]; rfl) | (rw [List.map_append]; rfl) | (simp; done))); (focus (first | exact len_none | exact len_one rfl | exact len_two rfl rfl | exact len_enc (fun _ => rfl))); (focus ((conv => lhs; rhs; whnf); simp only [List.length_map, List.length_append, List.length_cons, List.length_nil, List.length_take]; omega)); (focus (simp only [List.length_map, List.length_append, List.length_cons, List.length_nil, List.length_take]; omega))) | (refine s_app0R (r := s.Sent.map encParcel) ?_ ?_ ?_ ?_ (h := ?_); (focus (first | with_reducible rfl | with_reducible exact List.nil_append _ | with_reducible exact (List.map_append ..).symm | (rw [take_snoc (by assumption), List.map_append]; rfl) | (rw [List.map_append]; rfl) | (simp; done))); (focus (first | exact len_none | exact len_one rfl | exact len_two rfl rfl | exact len_enc (fun _ => rfl))); (focus ((conv => lhs; rhs; whnf); simp only [List.length_map, List.length_append, List.length_cons, List.length_nil, List.length_take]; omega)); (focus (simp only [List.length_map, List.length_append, List.length_cons, List.length_nil, List.length_take]; omega))) | (refine p_app (r := s.Sent.map encParcel) ?_ ?_ ?_ ?_ (h := ?_); (focus (first | with_reducible rfl | with_reducible exact List.nil_append _ | with_reducible exact (List.map_append ..).symm | (rw [take_snoc (by assumption), List.map_append]; rfl) | (rw [List.map_append]; rfl) | (simp; done))); (focus (first | exact len_none | exact len_one rfl | exact len_two rfl rfl | exact len_enc (fun _ => rfl))); (focus ((conv => lhs; rhs; whnf); simp only [List.length_map, List.length_append, List.length_cons, List.length_nil, List.length_take]; omega)); (focus (simp only [List.length_map, List.length_append, List.length_cons, List.length_nil, List.length_take]; omega))) | (refine p_app0R (r := s.Sent.map encParcel) ?_ ?_ ?_ ?_ (h := ?_); (focus (first | with_reducible rfl | with_reducible exact List.nil_append _ | with_reducible exact (List.map_append ..).symm | (rw [take_snoc (by assumption), List.map_append]; rfl) | (rw [List.map_append]; rfl) | (simp; done))); (focus (first | exact len_none | exact len_one rfl | exact len_two rfl rfl | exact len_enc (fun _ => rfl))); (focus ((conv => lhs; rhs; whnf); simp only [List.length_map, List.length_append, List.length_cons, List.length_nil, List.length_take]; omega)); (focus (simp only [List.length_map, List.length_append, List.length_cons, List.length_nil, List.length_take]; omega))) | (refine s_app (r := (s.Sent ++ [DParcel.mk s.Next now size l]).map encParcel) ?_ ?_ ?_ ?_ (h := ?_); (focus (first | with_reducible rfl | with_reducible exact List.nil_append _ | with_reducible exact (List.map_append ..).symm | (rw [take_snoc (by assumption), List.map_append]; rfl) | (rw [List.map_append]; rfl) | (simp; done))); (focus (first | exact len_none | exact len_one rfl | exact len_two rfl rfl | exact len_enc (fun _ => rfl))); (focus ((conv => lhs; rhs; whnf); simp only [List.length_map, List.length_append, List.length_cons, List.length_nil, List.length_take]; omega)); (focus (simp only [List.length_map, List.length_append, List.length_cons, List.length_nil, List.length_take]; omega))) | (refine s_app0R (r := (s.Sent ++ [DParcel.mk s.Next now size l]).map encParcel) ?_ ?_ ?_ ?_ (h := ?_); (focus (first | with_reducible rfl | with_reducible exact List.nil_append _ | with_reducible exact (List.map_append ..).symm | (rw [take_snoc (by assumption), List.map_append]; rfl) | (rw [List.map_append]; rfl) | (simp; done))); (focus (first | exact len_none | exact len_one rfl | exact len_two rfl rfl | exact len_enc (fun _ => rfl))); (focus ((conv => lhs; rhs; whnf); simp only [List.length_map, List.length_append, List.length_cons, List.length_nil, List.length_take]; omega)); (focus (simp only [List.length_map, List.length_append, List.length_cons, List.length_nil, List.length_take]; omega))) | (refine p_app (r := (s.Sent ++ [DParcel.mk s.Next now size l]).map encParcel) ?_ ?_ ?_ ?_ (h := ?_); (focus (first | with_reducible rfl | with_reducible exact List.nil_append _ | with_reducible exact (List.map_append ..).symm | (rw [take_snoc (by assumption), List.map_append]; rfl) | (rw [List.map_append]; rfl) | (simp; done))); (focus (first | exact len_none | exact len_one rfl | exact len_two rfl rfl | exact len_enc (fun _ => rfl))); (focus ((conv => lhs; rhs; whnf); simp only [List.length_map, List.length_append, List.length_cons, List.length_nil, List.length_take]; omega)); (focus (simp only [List.length_map, List.length_append, List.length_cons, List.length_nil, List.length_take]; omega))) | (refine p_app0R (r := (s.Sent ++ [DParcel.mk s.Next now size l]).map encParcel) ?_ ?_ ?_ ?_ (h := ?_); (focus (first | with_reducible rfl | with_reducible exact List.nil_append _ | with_reducible exact (List.map_append ..).symm | (rw [take_snoc (by assumption), List.map_append]; rfl) | (rw [List.map_append]; rfl) | (simp; done))); (focus (first | exact len_none | exact len_one rfl | exact len_two rfl rfl | exact len_enc (fun _ => rfl))); (focus ((conv => lhs; rhs; whnf); simp only [List.length_map, List.length_append, List.length_cons, List.length_nil, List.length_take]; omega)); (focus (simp only [List.length_map, List.length_append, List.length_cons, List.length_nil, List.length_take]; omega))) | (refine go_ ?_; ((repeat' first | exact True.intro | refine Two.mk ?_ ?_); all_goals intros)) | fail "")
        all_goals (exact endwA_)
  · rw [h0] at h1 ⊢
    rw [if_pos (by omega)]
    refine fn_of_run (by kernel_rfl) Try.func89 rfl (by kernel_rfl) ?_
    (repeat' first | (refine s_call (h1) (h := ?_)) | (refine p_call (h1) (h := ?_)) | (refine go_ ?_; ((repeat' first | exact True.intro | refine Two.mk ?_ ?_); all_goals intros)) | fail "")
    all_goals (exact endwA_)
theorem spSend_wf (s : DSpace) (now size : Int) (l : List DFrame) (hw : wfSpace s) (hl : l.length * 88 ≤ 140737488351232) (hf : ∀ y, y ∈ l → wfFrame y) : wfSpace (spSend s now size l).1 := by
  have hz : wfSpace ⟨0, [], 0, [], []⟩ := by unfold wfSpace I64; simp
  unfold spSend
  rcases spFlt_cases s with ⟨h0, ho⟩ | ⟨h0, ho⟩
  · rw [h0, if_neg (by omega)]
    split
    · exact hz
    · rename_i c1
      split
      · exact hz
      · have hh := ho.1.1
        unfold spHead at hh
        unfold sdBad at c1
        refine ⟨by unfold I64; dsimp only; omega, by dsimp only; rw [List.length_append]; simp; omega, fun y hy => ?_, hw.2.2.2⟩
        rcases List.mem_append.1 hy with h | h
        · exact hw.2.2.1 y h
        · rw [List.mem_singleton.1 h]
          exact ⟨by unfold I64; dsimp only; omega, by unfold I64; dsimp only; omega, by unfold I64; dsimp only; omega, hl, hf⟩
  · rw [h0, if_pos (by omega)]; exact hz
end Go.Proofs.Ytfdomanbdfekhaa

/-
  space.Tell and its counterpart: what each answers. No condition.
-/
set_option linter.unusedVariables false
set_option linter.unusedSimpArgs false
set_option linter.unusedVariables false
namespace Go.Proofs.Ytfdomanbdfekhaa
set_option maxRecDepth 100000
attribute [local irreducible] Run RunL QStep GStep Fn Less PL

/-- P11.6 -/
noncomputable def spTell (s : DSpace) : List DRange × Int := if spFlt s ≠ 0 then ([], spFlt s) else (s.Heard.reverse, 0)
theorem drop_rev {l : List DRange} {j : Nat} (h0 : 0 < j) (h : j ≤ l.length) : (l.drop (j - 1)).reverse = (l.drop j).reverse ++ [l.getD (j - 1) default] := by
  rw [drop_cons (by omega), List.reverse_cons, Nat.sub_add_cancel h0]
theorem tell_fn (s : DSpace) (hw : wfSpace s) : Fn Try.prog 76 [.agg (encSpace s)] (.tup [.ro ((spTell s).1.map encRange), .lit (.int .i64 (spTell s).2)]) := by
  have h1 := spaceCheck_fn s hw
  unfold spTell
  rcases spFlt_cases s with ⟨h0, ho⟩ | ⟨h0, ho⟩
  · rw [h0] at h1 ⊢
    rw [if_neg (by omega)]
    have hl : s.Heard.length ≤ 6 := ho.1.1.2.2.2.2.2.1
    refine fn_of_run (by kernel_rfl) Try.func76 rfl (by kernel_rfl) ?_
    (repeat' first | (refine s_call (h1) (h := ?_)) | (refine p_call (h1) (h := ?_)) | (refine go_ ?_; ((repeat' first | exact True.intro | refine Two.mk ?_ ?_); all_goals intros)) | fail "")
    refine r_for (fun j : Nat => ⟨[(1, .ptr 0 0 0 0), (6, .lit (.int .i64 ((j : Int) - 1))), (5, .own 1)], [(0, some (.box 51 (encSpace s))), (1, some (.row 153 2 ((s.Heard.drop j).reverse.map encRange)))], 2, Try.f76.ntmps⟩)
      (fun j => j ≤ s.Heard.length) (fun j => j) s.Heard.length (Nat.le_refl _) ((less_own (n := 1) (t := 5) 153 2 rfl rfl rfl).trans ?_) ?_
    · rw [List.drop_length]; exact less_to
    intro j hj
    by_cases hj0 : 0 < j
    · have hd : (s.Heard.drop j).length ≤ 6 := by rw [List.length_drop]; omega
      (repeat' first | (refine s_app (r := ((s.Heard.drop (j - 1)).reverse).map encRange) ?_ ?_ ?_ ?_ (h := ?_); (focus (first | (rw [drop_rev hj0 hj, List.map_append]; rfl) | with_reducible rfl | with_reducible exact List.nil_append _ | with_reducible exact (List.map_append ..).symm | (rw [take_snoc (by assumption), List.map_append]; rfl) | (rw [List.map_append]; rfl) | (simp; done))); (focus (first | exact len_none | exact len_one rfl | exact len_two rfl rfl | exact len_enc (fun _ => rfl))); (focus ((conv => lhs; rhs; whnf); simp only [List.length_map, List.length_append, List.length_cons, List.length_nil, List.length_take]; omega)); (focus (simp only [List.length_map, List.length_append, List.length_cons, List.length_nil, List.length_take]; omega))) | (refine s_app0R (r := ((s.Heard.drop (j - 1)).reverse).map encRange) ?_ ?_ ?_ ?_ (h := ?_); (focus (first | (rw [drop_rev hj0 hj, List.map_append]; rfl) | with_reducible rfl | with_reducible exact List.nil_append _ | with_reducible exact (List.map_append ..).symm | (rw [take_snoc (by assumption), List.map_append]; rfl) | (rw [List.map_append]; rfl) | (simp; done))); (focus (first | exact len_none | exact len_one rfl | exact len_two rfl rfl | exact len_enc (fun _ => rfl))); (focus ((conv => lhs; rhs; whnf); simp only [List.length_map, List.length_append, List.length_cons, List.length_nil, List.length_take]; omega)); (focus (simp only [List.length_map, List.length_append, List.length_cons, List.length_nil, List.length_take]; omega))) | (refine p_app (r := ((s.Heard.drop (j - 1)).reverse).map encRange) ?_ ?_ ?_ ?_ (h := ?_); (focus (first | (rw [drop_rev hj0 hj, List.map_append]; rfl) | with_reducible rfl | with_reducible exact List.nil_append _ | with_reducible exact (List.map_append ..).symm | (rw [take_snoc (by assumption), List.map_append]; rfl) | (rw [List.map_append]; rfl) | (simp; done))); (focus (first | exact len_none | exact len_one rfl | exact len_two rfl rfl | exact len_enc (fun _ => rfl))); (focus ((conv => lhs; rhs; whnf); simp only [List.length_map, List.length_append, List.length_cons, List.length_nil, List.length_take]; omega)); (focus (simp only [List.length_map, List.length_append, List.length_cons, List.length_nil, List.length_take]; omega))) | (refine p_app0R (r := ((s.Heard.drop (j - 1)).reverse).map encRange) ?_ ?_ ?_ ?_ (h := ?_); (focus (first | (rw [drop_rev hj0 hj, List.map_append]; rfl) | with_reducible rfl | with_reducible exact List.nil_append _ | with_reducible exact (List.map_append ..).symm | (rw [take_snoc (by assumption), List.map_append]; rfl) | (rw [List.map_append]; rfl) | (simp; done))); (focus (first | exact len_none | exact len_one rfl | exact len_two rfl rfl | exact len_enc (fun _ => rfl))); (focus ((conv => lhs; rhs; whnf); simp only [List.length_map, List.length_append, List.length_cons, List.length_nil, List.length_take]; omega)); (focus (simp only [List.length_map, List.length_append, List.length_cons, List.length_nil, List.length_take]; omega))) | (refine s_app (r := ((s.Heard.drop (j - 1)).reverse).map encRange) ?_ ?_ ?_ ?_ (h := ?_); (focus (rw [drop_rev hj0 hj, List.map_append]; rfl)); (focus (exact len_one rfl)); (focus ((conv => lhs; rhs; whnf); simp only [List.length_map, List.length_reverse, List.length_cons, List.length_nil]; omega)); (focus (simp only [List.length_map, List.length_reverse, List.length_cons, List.length_nil]; omega))) | (refine go_ ?_; ((repeat' first | exact True.intro | refine Two.mk ?_ ?_); all_goals intros)) | fail "")
      all_goals (refine ⟨j - 1, ?_, ?_, ?_⟩; rotate_left 2; (exact lessA_); (focus (omega)); (focus (omega)))
    · have hj0 : j = 0 := by omega
      subst hj0
      (repeat' first | (refine go_ ?_; ((repeat' first | exact True.intro | refine Two.mk ?_ ?_); all_goals intros)) | fail "")
      all_goals exact ends_ (hr := rfl)
  · rw [h0] at h1 ⊢
    rw [if_pos (by omega)]
    refine fn_of_run (by kernel_rfl) Try.func76 rfl (by kernel_rfl) ?_
    (repeat' first | (refine s_call (h1) (h := ?_)) | (refine p_call (h1) (h := ?_)) | (refine go_ ?_; ((repeat' first | exact True.intro | refine Two.mk ?_ ?_); all_goals intros)) | fail "")
    all_goals (exact endwA_)
theorem backwards_fn (l : List DRange) (hl : l.length * 16 ≤ 140737488351232) : Fn Try.prog 84 [.ro (l.map encRange)] (.ro (l.reverse.map encRange)) := by
  refine fn_of_run (by kernel_rfl) Try.func84 rfl (by kernel_rfl) ?_
  (repeat' first | (refine go_ ?_; ((repeat' first | exact True.intro | refine Two.mk ?_ ?_); all_goals intros)) | fail "")
  refine r_for (fun k : Nat => ⟨[(6, .ro (l.map encRange)), (7, .lit (.int .i64 l.length)), (8, .lit (.int .i64 k)), (3, .own 0)], [(0, some (.row 153 2 ((l.take k).reverse.map encRange)))], 1, Try.f84.ntmps⟩)
    (fun k => k ≤ l.length) (fun k => l.length - k) 0 (Nat.zero_le _) ((less_own (n := 0) (t := 3) 153 2 rfl rfl rfl).trans less_to) ?_
  intro k hk
  by_cases hkn : k < l.length
  · have e : (l.take (k + 1)).reverse = [l.getD k default] ++ (l.take k).reverse := by rw [take_snoc hkn, List.reverse_append]; rfl
    have htl : (l.take k).length = k := by rw [List.length_take]; omega
    (repeat' first | refine s_row (l' := [encRange (l.getD k default)]) (h := ?_) | (refine s_app (r := ((l.take (k + 1)).reverse).map encRange) ?_ ?_ ?_ ?_ (h := ?_); (focus (rw [e, List.map_append]; rfl)); (focus (exact len_enc (fun _ => rfl))); (focus ((conv => lhs; rhs; whnf); simp only [List.length_map, List.length_reverse, List.length_cons, List.length_nil]; omega)); (focus (simp only [List.length_map, List.length_reverse, List.length_cons, List.length_nil]; omega))) | (refine goI_ ?_; ((repeat' first | exact True.intro | refine Two.mk ?_ ?_); all_goals intros)) | refine s_i (h := ?_) | refine s_i (hq := q_index_ro rfl rfl rfl (by first | exact lit0 | exact lit1 | exact lit2 | exact lit3 | rfl) (by simp only [List.length_cons, List.length_nil]; omega) rfl rfl rfl rfl) (h := ?_) | refine p_i (h := ?_) | refine p_ih (h := ?_) | refine s_lit (h := ?_) | refine p_lit (h := ?_) | refine p_lit0 (h := ?_) | refine s_lit0 (h := ?_) | refine s_ixa (h := ?_) | refine s_insert (h := ?_) | (refine s_sadd rfl ?_ (h := ?_); (focus (first | omega | (simp only [List.length_append, List.length_map, List.length_cons, List.length_nil, List.length_take, List.length_drop]; omega)))) | (refine p_sadd rfl ?_ (h := ?_); (focus (first | omega | (simp only [List.length_append, List.length_map, List.length_cons, List.length_nil, List.length_take, List.length_drop]; omega)))) | fail "")
    all_goals (refine ⟨k + 1, ?_, ?_, ?_⟩; rotate_left 2; (exact lessA_); (focus (omega)); (focus (exact hkn)))
  · (repeat' first | (refine go_ ?_; ((repeat' first | exact True.intro | refine Two.mk ?_ ?_); all_goals intros)) | fail "")
    all_goals (refine ends_ (hr := ?_); rw [List.take_of_length_le (by omega)])
end Go.Proofs.Ytfdomanbdfekhaa
