/-
  gather.Put: its closure, which puts a piece of the new bytes.
-/
import Derived.Test.YtendheafcbickaaGA
import Derived.Test.YtendheafcbickaaGC
import Derived.Test.YtendheafcbickaaProg
import Derived.Test.YtendheafcbickaaMgd
set_option linter.unusedVariables false
set_option linter.unusedSimpArgs false
set_option linter.unusedVariables false
namespace Go.Proofs.Ytendheafcbickaa
set_option maxRecDepth 100000
attribute [local irreducible] Run RunL QStep GStep Fn Less PL FnM

/-- the new bytes from a on, up to a place -/
def pcOf (a off : Int) (data : List UInt8) (to : Int) : DPiece := ⟨a, (data.take (to - off).toNat).drop (a - off).toNat⟩
def pcAdd (a off : Int) (data : List UInt8) (to : Int) (l : List DPiece) : List DPiece := if a < to then l ++ [pcOf a off data to] else l
set_option maxHeartbeats 1000000 in
theorem putPiece_fnm (a off to : Int) (data : List UInt8) (l : List DPiece) (h0 : 0 ≤ off) (ha : off ≤ a) (ha2 : a ≤ 4611686018427387903) (ht : to ≤ off + data.length) (hm : off + data.length ≤ 4611686018427387903) (hl : l.length ≤ 1000000) :
    FnM Try.prog 9 [.lit (.int .i64 to), .ptr 0 0 0 0, .ptr 1 0 0 0, .ptr 2 0 0 0, .ptr 3 0 0 0] [(0, some (.box 3 [.lit (.int .i64 a)])), (1, some (.box 22 [.own 4])), (2, some (.box 25 [.ro (data.map encB)])), (3, some (.box 3 [.lit (.int .i64 off)])), (4, some (.row 34 2 (l.map encPiece)))] 5
      (.tup []) [(0, some (.box 3 [.lit (.int .i64 a)])), (1, some (.box 22 [.own 5])), (2, some (.box 25 [.ro (data.map encB)])), (3, some (.box 3 [.lit (.int .i64 off)])), (5, some (.row 34 2 ((pcAdd a off data to l).map encPiece)))] 6 := by
  unfold pcAdd
  by_cases hlt : a < to
  · rw [if_pos hlt]
    refine fnm_of_run (by kernel_rfl) Try.func9 rfl (by kernel_rfl) (by rfl) ?_
    (repeat' first | (refine p_slice (l := data) (f := encB) (a - off).toNat (to - off).toNat ?_ ?_ ?_ ?_ rfl (h := ?_); (focus (show (a - off : Int) = _; omega)); (focus (show (to - off : Int) = _; omega)); (focus omega); (focus omega)) | (refine s_app (r := (l ++ [pcOf a off data to]).map encPiece) ?_ ?_ ?_ ?_ (h := ?_); (focus (first | with_reducible rfl | with_reducible exact List.nil_append _ | with_reducible exact (List.map_append ..).symm | (rw [take_snoc (by assumption), List.map_append]; rfl) | (rw [List.map_append]; rfl) | (simp; done))); (focus (first | exact len_none | exact len_one rfl | exact len_two rfl rfl | exact len_enc (fun _ => rfl))); (focus ((conv => lhs; rhs; whnf); simp only [List.length_map, List.length_append, List.length_cons, List.length_nil, List.length_take]; omega)); (focus (simp only [List.length_map, List.length_append, List.length_cons, List.length_nil, List.length_take]; omega))) | (refine s_app0R (r := (l ++ [pcOf a off data to]).map encPiece) ?_ ?_ ?_ ?_ (h := ?_); (focus (first | with_reducible rfl | with_reducible exact List.nil_append _ | with_reducible exact (List.map_append ..).symm | (rw [take_snoc (by assumption), List.map_append]; rfl) | (rw [List.map_append]; rfl) | (simp; done))); (focus (first | exact len_none | exact len_one rfl | exact len_two rfl rfl | exact len_enc (fun _ => rfl))); (focus ((conv => lhs; rhs; whnf); simp only [List.length_map, List.length_append, List.length_cons, List.length_nil, List.length_take]; omega)); (focus (simp only [List.length_map, List.length_append, List.length_cons, List.length_nil, List.length_take]; omega))) | (refine p_app (r := (l ++ [pcOf a off data to]).map encPiece) ?_ ?_ ?_ ?_ (h := ?_); (focus (first | with_reducible rfl | with_reducible exact List.nil_append _ | with_reducible exact (List.map_append ..).symm | (rw [take_snoc (by assumption), List.map_append]; rfl) | (rw [List.map_append]; rfl) | (simp; done))); (focus (first | exact len_none | exact len_one rfl | exact len_two rfl rfl | exact len_enc (fun _ => rfl))); (focus ((conv => lhs; rhs; whnf); simp only [List.length_map, List.length_append, List.length_cons, List.length_nil, List.length_take]; omega)); (focus (simp only [List.length_map, List.length_append, List.length_cons, List.length_nil, List.length_take]; omega))) | (refine p_app0R (r := (l ++ [pcOf a off data to]).map encPiece) ?_ ?_ ?_ ?_ (h := ?_); (focus (first | with_reducible rfl | with_reducible exact List.nil_append _ | with_reducible exact (List.map_append ..).symm | (rw [take_snoc (by assumption), List.map_append]; rfl) | (rw [List.map_append]; rfl) | (simp; done))); (focus (first | exact len_none | exact len_one rfl | exact len_two rfl rfl | exact len_enc (fun _ => rfl))); (focus ((conv => lhs; rhs; whnf); simp only [List.length_map, List.length_append, List.length_cons, List.length_nil, List.length_take]; omega)); (focus (simp only [List.length_map, List.length_append, List.length_cons, List.length_nil, List.length_take]; omega))) | (refine go_ ?_; ((repeat' first | exact True.intro | refine Two.mk ?_ ?_); all_goals intros)) | fail "")
    all_goals first
      | (exact endmA_)
      | skip
  · rw [if_neg hlt]
    refine fnm_of_run (by kernel_rfl) Try.func9 rfl (by kernel_rfl) (by rfl) ?_
    refine r_less (st' := ⟨[(0, .lit (.int .i64 to)), (1, .ptr 0 0 0 0), (2, .ptr 1 0 0 0), (3, .ptr 2 0 0 0), (4, .ptr 3 0 0 0)], [(0, some (.box 3 [.lit (.int .i64 a)])), (1, some (.box 22 [.own 5])), (2, some (.box 25 [.ro (data.map encB)])), (3, some (.box 3 [.lit (.int .i64 off)])), (5, some (.row 34 2 (l.map encPiece)))], 6, Try.f9.ntmps⟩) (mv_ 4) ?_
    (repeat' first | (refine go_ ?_; ((repeat' first | exact True.intro | refine Two.mk ?_ ?_); all_goals intros)) | fail "")
    all_goals first
      | (exact endmA_)
      | skip
end Go.Proofs.Ytendheafcbickaa
