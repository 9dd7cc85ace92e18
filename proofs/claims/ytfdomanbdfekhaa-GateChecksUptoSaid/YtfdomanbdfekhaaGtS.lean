/-
  The laws' sameGate, of an endpoint that was just begun and itself.
-/
import Derived.Test.YtfdomanbdfekhaaGo
import Derived.Test.YtfdomanbdfekhaaGtC
import Derived.Test.YtfdomanbdfekhaaAbsH
set_option linter.unusedVariables false
set_option linter.unusedSimpArgs false
set_option linter.unusedVariables false
namespace Go.Proofs.Ytfdomanbdfekhaa
set_option maxRecDepth 100000
attribute [local irreducible] Run RunL QStep GStep Fn Less PL FnM

set_option maxHeartbeats 4000000 in
theorem sameBeg_fn (s : Int) (r : Bool) : Fn Try.prog 22 [.agg (encGate (gtBeg s r)), .agg (encGate (gtBeg s r))] (.lit (.bool true)) := by
  generalize hZ : encGate (gtBeg s r) = Z
  unfold encGate gtBeg at hZ
  dsimp only [List.map_nil] at hZ
  subst hZ
  refine fn_of_run (by kernel_rfl) Try.func22 rfl (by kernel_rfl) ?_
  (repeat' first | refine s_i (hq := q_arr_refl (us := [.bool false, .int .i64 0, .int .i64 0, .bool false, .int .i64 0, .int .i64 0, .bool false, .int .i64 0, .int .i64 0, .bool false, .int .i64 0, .int .i64 0]) (la := [.bool false, .int .i64 0, .int .i64 0, .bool false, .int .i64 0, .int .i64 0, .bool false, .int .i64 0, .int .i64 0, .bool false, .int .i64 0, .int .i64 0]) rfl rfl rfl (by kernel_rfl) (by kernel_rfl) (by kernel_rfl) (by kernel_rfl)) (h := ?_) | (refine goI_ ?_; ((repeat' first | exact True.intro | refine Two.mk ?_ ?_); all_goals intros)) | refine s_i (h := ?_) | refine s_i (hq := q_index_ro rfl rfl rfl (by first | exact lit0 | exact lit1 | exact lit2 | exact lit3 | rfl) (by simp only [List.length_cons, List.length_nil]; omega) rfl rfl rfl rfl) (h := ?_) | refine p_i (h := ?_) | refine p_ih (h := ?_) | refine s_lit (h := ?_) | refine p_lit (h := ?_) | refine p_lit0 (h := ?_) | refine s_lit0 (h := ?_) | refine s_ixa (h := ?_) | refine s_insert (h := ?_) | (refine s_sadd rfl ?_ (h := ?_); (focus (first | omega | (simp only [List.length_append, List.length_map, List.length_cons, List.length_nil, List.length_take, List.length_drop]; omega)))) | (refine p_sadd rfl ?_ (h := ?_); (focus (first | omega | (simp only [List.length_append, List.length_map, List.length_cons, List.length_nil, List.length_take, List.length_drop]; omega)))) | fail "")
  refine r_for (fun _ : Unit => ⟨[(2, .ptr 0 0 0 0), (5, .lit (.bool true)), (6, .lit (.int .i64 0))], [(0, some (.box 42 (encGate (gtBeg s r))))], 2, Try.f22.ntmps⟩) (fun _ => True) (fun _ => 0) () trivial (by (exact lessA_)) ?_
  rintro ⟨⟩ -
  (repeat' first | (refine go_ ?_; ((repeat' first | exact True.intro | refine Two.mk ?_ ?_); all_goals intros)) | fail "")
  all_goals first
    | (exact endwA_)
    | (exfalso; rename_i h; exact absurd h (by show ¬ ((0 : Int) < ((0 : Nat) : Int)); decide))
    | skip
end Go.Proofs.Ytfdomanbdfekhaa
