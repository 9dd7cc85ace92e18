/-
  conn.Write and the reference's ConnWritten: what each answers.
-/
import Derived.Test.YtfdomanbdfekhaaGreatGA
import Derived.Test.YtfdomanbdfekhaaGreatGM
import Derived.Test.YtfdomanbdfekhaaGreatGG
import Derived.Test.YtfdomanbdfekhaaGreatGD
set_option linter.unusedVariables false
set_option linter.unusedSimpArgs false
set_option linter.unusedVariables false
namespace Go.Proofs.YtfdomanbdfekhaaGreat
set_option maxRecDepth 100000
attribute [local irreducible] Run RunL QStep GStep Fn Less PL FnM

def cnSet (c : DConn) (i : Nat) (l : DLane) : DConn := { c with Lanes := c.Lanes.set i l }
/-- P18.5 -/
noncomputable def cnWriteR (c : DConn) (id : Int) (b : List UInt8) (fin : Bool) : DConn × Int :=
  if cnFlt c = 0 then (if c.Closed = true then (default, 17) else if lnIx c.Lanes id < c.Lanes.length then
    (if (wrR (c.Lanes.getD (lnIx c.Lanes id) default).Out b fin).2 = 0 then (cnSet c (lnIx c.Lanes id) { c.Lanes.getD (lnIx c.Lanes id) default with Out := (wrR (c.Lanes.getD (lnIx c.Lanes id) default).Out b fin).1 }, 0) else (default, (wrR (c.Lanes.getD (lnIx c.Lanes id) default).Out b fin).2)) else (default, 5)) else (default, 9)
set_option maxHeartbeats 4000000 in
theorem laneAt_fn (c : DConn) (id : Int) (hl : c.Lanes.length ≤ 1000000) : Fn Tryz.prog 69 [.agg (encConn c), .lit (.int .i64 id)] (.lit (.int .i64 (if lnIx c.Lanes id < c.Lanes.length then (lnIx c.Lanes id : Int) else -1))) := by
  have hle := lnIx_le c.Lanes id
  generalize hP : (if lnIx c.Lanes id < c.Lanes.length then (lnIx c.Lanes id : Int) else -1) = R
  refine fn_of_run (by kernel_rfl) Tryz.func69 rfl (by kernel_rfl) ?_
  (repeat' first | (refine go_ ?_; ((repeat' first | exact True.intro | refine Two.mk ?_ ?_); all_goals intros)) | fail "")
  refine r_for (fun k : Nat => ⟨[(1, .lit (.int .i64 id)), (8, .ro (c.Lanes.map encLane)), (9, .lit (.int .i64 c.Lanes.length)), (10, .lit (.int .i64 k))], [], 0, Tryz.f69.ntmps⟩)
    (fun k => k ≤ lnIx c.Lanes id) (fun k => c.Lanes.length - k) 0 (Nat.zero_le _) (by (exact lessA_)) ?_
  intro k hk
  by_cases hkn : k < c.Lanes.length
  · by_cases he : (c.Lanes.getD k default).Id = id
    · have hx := lnIx_of hkn hk he
      rw [hx, if_pos hkn] at hP
      subst hP
      (repeat' first | (refine go_ ?_; ((repeat' first | exact True.intro | refine Two.mk ?_ ?_); all_goals intros)) | fail "")
      all_goals first
        | (exact endwA_)
        | skip
    · have hx := lnIx_step hkn hk he
      (repeat' first | (refine go_ ?_; ((repeat' first | exact True.intro | refine Two.mk ?_ ?_); all_goals intros)) | fail "")
      all_goals first
        | (refine ⟨k + 1, ?_, ?_, ?_⟩; rotate_left 2; (exact lessA_); (focus (omega)); (focus (exact hx)))
        | skip
  · have hkl : k = c.Lanes.length := by omega
    rw [if_neg (by omega)] at hP
    subst hP
    (repeat' first | (refine go_ ?_; ((repeat' first | exact True.intro | refine Two.mk ?_ ?_); all_goals intros)) | fail "")
    all_goals first
      | (exact endwA_)
      | skip
set_option maxHeartbeats 4000000 in
theorem setLane_fn (c : DConn) (i : Nat) (l : DLane) (hl : c.Lanes.length ≤ 1000000) (hi : i < c.Lanes.length) : Fn Tryz.prog 71 [.agg (encConn c), .lit (.int .i64 i), .agg (encLane l)] (.agg (encConn (cnSet c i l))) := by
  unfold cnSet
  generalize hZ : encConn { c with Lanes := c.Lanes.set i l } = Z
  unfold encConn at hZ
  dsimp only at hZ
  subst hZ
  refine fn_of_run (by kernel_rfl) Tryz.func71 rfl (by kernel_rfl) ?_
  (repeat' first | (refine s_app (r := c.Lanes.map encLane) ?_ ?_ ?_ ?_ (h := ?_); (focus (first | with_reducible rfl | with_reducible exact List.nil_append _ | with_reducible exact (List.map_append ..).symm | (rw [take_snoc (by assumption), List.map_append]; rfl) | (rw [List.map_append]; rfl) | (simp; done))); (focus (first | exact len_none | exact len_one rfl | exact len_two rfl rfl | exact len_enc (fun _ => rfl))); (focus ((conv => lhs; rhs; whnf); simp only [List.length_map, List.length_append, List.length_cons, List.length_nil, List.length_take]; omega)); (focus (simp only [List.length_map, List.length_append, List.length_cons, List.length_nil, List.length_take]; omega))) | (refine s_app0R (r := c.Lanes.map encLane) ?_ ?_ ?_ ?_ (h := ?_); (focus (first | with_reducible rfl | with_reducible exact List.nil_append _ | with_reducible exact (List.map_append ..).symm | (rw [take_snoc (by assumption), List.map_append]; rfl) | (rw [List.map_append]; rfl) | (simp; done))); (focus (first | exact len_none | exact len_one rfl | exact len_two rfl rfl | exact len_enc (fun _ => rfl))); (focus ((conv => lhs; rhs; whnf); simp only [List.length_map, List.length_append, List.length_cons, List.length_nil, List.length_take]; omega)); (focus (simp only [List.length_map, List.length_append, List.length_cons, List.length_nil, List.length_take]; omega))) | (refine p_app (r := c.Lanes.map encLane) ?_ ?_ ?_ ?_ (h := ?_); (focus (first | with_reducible rfl | with_reducible exact List.nil_append _ | with_reducible exact (List.map_append ..).symm | (rw [take_snoc (by assumption), List.map_append]; rfl) | (rw [List.map_append]; rfl) | (simp; done))); (focus (first | exact len_none | exact len_one rfl | exact len_two rfl rfl | exact len_enc (fun _ => rfl))); (focus ((conv => lhs; rhs; whnf); simp only [List.length_map, List.length_append, List.length_cons, List.length_nil, List.length_take]; omega)); (focus (simp only [List.length_map, List.length_append, List.length_cons, List.length_nil, List.length_take]; omega))) | (refine p_app0R (r := c.Lanes.map encLane) ?_ ?_ ?_ ?_ (h := ?_); (focus (first | with_reducible rfl | with_reducible exact List.nil_append _ | with_reducible exact (List.map_append ..).symm | (rw [take_snoc (by assumption), List.map_append]; rfl) | (rw [List.map_append]; rfl) | (simp; done))); (focus (first | exact len_none | exact len_one rfl | exact len_two rfl rfl | exact len_enc (fun _ => rfl))); (focus ((conv => lhs; rhs; whnf); simp only [List.length_map, List.length_append, List.length_cons, List.length_nil, List.length_take]; omega)); (focus (simp only [List.length_map, List.length_append, List.length_cons, List.length_nil, List.length_take]; omega))) | (refine s_set (r := (c.Lanes.set i l).map encLane) ?_ ?_ (h := ?_); (focus (first | omega | (simp only [List.length_map, List.length_append, List.length_take, List.length_drop, List.length_replicate]; omega))); (focus ((rw [eAt_map encLane hi, List.map_set]; rfl)))) | (refine p_set (r := (c.Lanes.set i l).map encLane) ?_ ?_ (h := ?_); (focus (first | omega | (simp only [List.length_map, List.length_append, List.length_take, List.length_drop, List.length_replicate]; omega))); (focus ((rw [eAt_map encLane hi, List.map_set]; rfl)))) | (refine go_ ?_; ((repeat' first | exact True.intro | refine Two.mk ?_ ?_); all_goals intros)) | fail "")
  all_goals first
    | (exact endwA_)
    | skip
end Go.Proofs.YtfdomanbdfekhaaGreat
