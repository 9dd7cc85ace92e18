/-
  conn.Write and the reference's ConnWritten: what each answers.
-/
import Derived.Test.YtfdomanbdfekhaaGA
import Derived.Test.YtfdomanbdfekhaaCnO
import Derived.Test.YtfdomanbdfekhaaGG
import Derived.Test.YtfdomanbdfekhaaGD
set_option linter.unusedVariables false
set_option linter.unusedSimpArgs false
set_option linter.unusedVariables false
namespace Go.Proofs.Ytfdomanbdfekhaa
set_option maxRecDepth 100000
attribute [local irreducible] Run RunL QStep GStep Fn Less PL FnM

def cnSet (c : DConn) (i : Nat) (l : DLane) : DConn := { c with Lanes := c.Lanes.set i l }
/-- P18.5 -/
noncomputable def cnWriteR (c : DConn) (id : Int) (b : List UInt8) (fin : Bool) : DConn × Int :=
  if cnFlt c = 0 then (if c.Closed = true then (default, 17) else if lnIx c.Lanes id < c.Lanes.length then
    (if (wrR (c.Lanes.getD (lnIx c.Lanes id) default).Out b fin).2 = 0 then (cnSet c (lnIx c.Lanes id) { c.Lanes.getD (lnIx c.Lanes id) default with Out := (wrR (c.Lanes.getD (lnIx c.Lanes id) default).Out b fin).1 }, 0) else (default, (wrR (c.Lanes.getD (lnIx c.Lanes id) default).Out b fin).2)) else (default, 5)) else (default, 9)
set_option maxHeartbeats 4000000 in
theorem setLane_fn (c : DConn) (i : Nat) (l : DLane) (hl : c.Lanes.length ≤ 1000000) (hi : i < c.Lanes.length) : Fn Try.prog 62 [.agg (encConn c), .lit (.int .i64 i), .agg (encLane l)] (.agg (encConn (cnSet c i l))) := by
  unfold cnSet
  generalize hZ : encConn { c with Lanes := c.Lanes.set i l } = Z
  unfold encConn at hZ
  dsimp only at hZ
  subst hZ
  refine fn_of_run (by kernel_rfl) Try.func62 rfl (by kernel_rfl) ?_
  (repeat' first | (refine s_app (r := c.Lanes.map encLane) ?_ ?_ ?_ ?_ (h := ?_); (focus (first | with_reducible rfl | with_reducible exact List.nil_append _ | with_reducible exact (List.map_append ..).symm | (rw [take_snoc (by assumption), List.map_append]; rfl) | (rw [List.map_append]; rfl) | (simp; done))); (focus (first | exact len_none | exact len_one rfl | exact len_two rfl rfl | exact len_enc (fun _ => rfl))); (focus ((conv => lhs; rhs; whnf); simp only [List.length_map, List.length_append, List.length_cons, List.length_nil, List.length_take]; omega)); (focus (simp only [List.length_map, List.length_append, List.length_cons, List.length_nil, List.length_take]; omega))) | (refine s_app0R (r := c.Lanes.map encLane) ?_ ?_ ?_ ?_ (h := ?_); (focus (first | with_reducible rfl | with_reducible exact List.nil_append _ | with_reducible exact (List.map_append ..).symm | (rw [take_snoc (by assumption), List.map_append]; rfl) | (rw [List.map_append]; rfl) | (simp; done))); (focus (first | exact len_none | exact len_one rfl | exact len_two rfl rfl | exact len_enc (fun _ => rfl))); (focus ((conv => lhs; rhs; whnf); simp only [List.length_map, List.length_append, List.length_cons, List.length_nil, List.length_take]; omega)); (focus (simp only [List.length_map, List.length_append, List.length_cons, List.length_nil, List.length_take]; omega))) | (refine p_app (r := c.Lanes.map encLane) ?_ ?_ ?_ ?_ (h := ?_); (focus (first | with_reducible rfl | with_reducible exact List.nil_append _ | with_reducible exact (List.map_append ..).symm | (rw [take_snoc (by assumption), List.map_append]; rfl) | (rw [List.map_append]; rfl) | (simp; done))); (focus (first | exact len_none | exact len_one rfl | exact len_two rfl rfl | exact len_enc (fun _ => rfl))); (focus ((conv => lhs; rhs; whnf); simp only [List.length_map, List.length_append, List.length_cons, List.length_nil, List.length_take]; omega)); (focus (simp only [List.length_map, List.length_append, List.length_cons, List.length_nil, List.length_take]; omega))) | (refine p_app0R (r := c.Lanes.map encLane) ?_ ?_ ?_ ?_ (h := ?_); (focus (first | with_reducible rfl | with_reducible exact List.nil_append _ | with_reducible exact (List.map_append ..).symm | (rw [take_snoc (by assumption), List.map_append]; rfl) | (rw [List.map_append]; rfl) | (simp; done))); (focus (first | exact len_none | exact len_one rfl | exact len_two rfl rfl | exact len_enc (fun _ => rfl))); (focus ((conv => lhs; rhs; whnf); simp only [List.length_map, List.length_append, List.length_cons, List.length_nil, List.length_take]; omega)); (focus (simp only [List.length_map, List.length_append, List.length_cons, List.length_nil, List.length_take]; omega))) | (refine s_set (r := (c.Lanes.set i l).map encLane) ?_ ?_ (h := ?_); (focus (first | omega | (simp only [List.length_map, List.length_append, List.length_take, List.length_drop, List.length_replicate]; omega))); (focus ((rw [eAt_map encLane hi, List.map_set]; rfl)))) | (refine p_set (r := (c.Lanes.set i l).map encLane) ?_ ?_ (h := ?_); (focus (first | omega | (simp only [List.length_map, List.length_append, List.length_take, List.length_drop, List.length_replicate]; omega))); (focus ((rw [eAt_map encLane hi, List.map_set]; rfl)))) | (refine go_ ?_; ((repeat' first | exact True.intro | refine Two.mk ?_ ?_); all_goals intros)) | fail "")
  all_goals first
    | (exact endwA_)
    | skip
end Go.Proofs.Ytfdomanbdfekhaa
