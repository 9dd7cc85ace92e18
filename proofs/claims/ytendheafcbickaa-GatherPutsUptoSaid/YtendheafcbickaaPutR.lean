/-
  The reference's GatherPut: what it answers.
-/
import Derived.Test.YtendheafcbickaaGA
import Derived.Test.YtendheafcbickaaPutM
import Derived.Test.YtendheafcbickaaGH
import Derived.Test.YtendheafcbickaaGC
set_option linter.unusedVariables false
set_option linter.unusedSimpArgs false
set_option linter.unusedVariables false
namespace Go.Proofs.Ytendheafcbickaa
set_option maxRecDepth 100000
attribute [local irreducible] Run RunL QStep GStep Fn Less PL FnM

def gRch (g : DGather) : Nat → Int
  | 0 => g.Done
  | k + 1 => (g.Held.getD k default).Off + (g.Held.getD k default).Data.length
theorem gRch_all (g : DGather) : gRch g g.Held.length = gReach g := by
  unfold gReach
  cases h : g.Held.length with
  | zero => rfl
  | succ n => rw [if_pos (by omega)]; rfl
theorem reachOf_fn (g : DGather) (h : gatherFlt g = 0) : Fn Try.prog 13 [.agg (encGather g)] (.lit (.int .i64 (gReach g))) := by
  obtain ⟨hh, hm⟩ := flt_mem h
  unfold gHead at hh
  rw [← gRch_all]
  refine fn_of_run (by kernel_rfl) Try.func13 rfl (by kernel_rfl) ?_
  (repeat' first | (refine go_ ?_; ((repeat' first | exact True.intro | refine Two.mk ?_ ?_); all_goals intros)) | fail "")
  refine r_for (fun k : Nat => ⟨[(1, .ptr 0 0 0 0), (3, .lit (.int .i64 (gRch g k))), (9, .ro (g.Held.map encPiece)), (10, .lit (.int .i64 g.Held.length)), (11, .lit (.int .i64 k))], [(0, some (.box 24 (encGather g)))], 1, Try.f13.ntmps⟩)
    (fun k => k ≤ g.Held.length) (fun k => g.Held.length - k) 0 (Nat.zero_le _) (by (exact lessA_)) ?_
  intro k hk
  by_cases hkn : k < g.Held.length
  · have hp := hm _ (getD_mem hkn)
    have e : gRch g (k + 1) = (g.Held.getD k default).Off + (g.Held.getD k default).Data.length := rfl
    generalize gRch g k = u
    (repeat' first | (refine go_ ?_; ((repeat' first | exact True.intro | refine Two.mk ?_ ?_); all_goals intros)) | fail "")
    all_goals first
      | (refine ⟨k + 1, ?_, ?_, ?_⟩; rotate_left 2; (rw [e]; (exact lessA_)); (focus omega); (focus (exact hkn)))
      | skip
  · have hkl : k = g.Held.length := by omega
    subst hkl
    generalize gRch g g.Held.length = u
    (repeat' first | (refine go_ ?_; ((repeat' first | exact True.intro | refine Two.mk ?_ ?_); all_goals intros)) | fail "")
    all_goals first
      | exact ends_ (hr := rfl)
      | skip
theorem svX_snoc2 {inv : Nat → Option Nat} {heap : List (Nat × Option Blk)} {e s : Nat} (L : List DPiece) {cs cs' ds ds' : List V} (h : sv.svL inv heap cs = some cs') (h2 : sv.svL inv heap ds = some ds') : svX inv heap (.rox e s ((L.map encPiece ++ [cs]) ++ [ds])) (.rox e s ((L.map encPiece ++ [cs']) ++ [ds'])) := by
  refine .inr ⟨e, s, _, _, rfl, rfl, by simp, fun i hi => ?_⟩
  rw [eAt_append, eAt_append, eAt_append, eAt_append]
  simp only [List.length_append, List.length_map, List.length_cons, List.length_nil] at hi ⊢
  by_cases h1 : i < L.length
  · rw [if_pos (show i < L.length + (0 + 1) by omega), if_pos h1, if_pos (show i < L.length + (0 + 1) by omega), if_pos h1]
    refine svL_pure (map_pure L _ ?_)
    unfold eAt; rw [List.getD_eq_getElem?_getD, List.getElem?_eq_getElem (by rw [List.length_map]; exact h1)]; exact List.getElem_mem _
  · by_cases h3 : i < L.length + (0 + 1)
    · rw [if_pos h3, if_neg h1, if_pos h3, if_neg h1, show i - L.length = 0 by omega]; exact h
    · rw [if_neg h3, if_neg h3, show i - (L.length + (0 + 1)) = 0 by omega]; exact h2
theorem eAt_snocN {l : List (List V)} {cs : List V} {n : Nat} (h : n = l.length) : eAt (l ++ [cs]) n = cs := by rw [h]; exact eAt_snoc
theorem set_snocN {l : List (List V)} {cs ds : List V} {n : Nat} (h : n = l.length) : (l ++ [cs]).set n ds = l ++ [ds] := by rw [h]; exact set_snoc
/-- the state ahead of a round of the last loop -/
noncomputable def prS (g : DGather) (last : Int) (fin : Bool) (MM : List (Int × UInt8)) (P : List Int) (k : Nat) : Option (List DPiece × DPiece) → St
  | none => ⟨[(3, .lit (.bool fin)), (4, .ptr 0 0 0 0), (8, .ptr 1 0 0 0), (9, .lit (.int .i64 0)), (11, .lit (.int .i64 last)), (12, .own 2), (19, .ro (P.map encI)), (21, .own 3), (129, .ro (P.map encI)), (130, .lit (.int .i64 P.length)), (131, .lit (.int .i64 k))],
      [(0, some (.box 24 (encGather g))), (1, some (.box 24 [.lit (.int .i64 0), .lit (.slice none 0 0), .lit (.int .i64 0), .lit (.int .i64 0)])), (2, some (.fmap (some .i64) (MM.map kvB))), (3, some (.rox 34 2 []))], 4, Try.f5.ntmps⟩
  | some (L, q) => ⟨[(3, .lit (.bool fin)), (4, .ptr 0 0 0 0), (8, .ptr 1 0 0 0), (9, .lit (.int .i64 0)), (11, .lit (.int .i64 last)), (12, .own 2), (19, .ro (P.map encI)), (21, .own 3), (129, .ro (P.map encI)), (130, .lit (.int .i64 P.length)), (131, .lit (.int .i64 k))],
      [(0, some (.box 24 (encGather g))), (1, some (.box 24 [.lit (.int .i64 0), .lit (.slice none 0 0), .lit (.int .i64 0), .lit (.int .i64 0)])), (2, some (.fmap (some .i64) (MM.map kvB))), (3, some (.rox 34 2 (L.map encPiece ++ [[.lit (.int .i64 q.Off), .own 4]]))), (4, some (.row 5 1 (q.Data.map encB)))], 5, Try.f5.ntmps⟩

set_option maxHeartbeats 8000000 in
theorem gatherPutRef_fn (g : DGather) (off : Int) (data : List UInt8) (fin : Bool) (hw : wfGather g) (ho : I64 off) (hd : data.length ≤ 1048576) (hs : ∀ p ∈ g.Held, p.Data.length ≤ 16777216) : Fn Try.prog 5 [.agg (encGather g), .lit (.int .i64 off), .ro (data.map encB), .lit (.bool fin)] (.tup [.agg (encGather (putR g off data fin).1), .lit (.int .i64 (putR g off data fin).2)]) := by
  have h1 := gatherFault_fn g hw
  unfold I64 at ho
  unfold putR
  by_cases h0 : gatherFlt g = 0
  · have hE := reachOf_fn g h0
    obtain ⟨hh, hm⟩ := flt_mem h0
    have hkH := flt_okH h0
    unfold gHead at hh
    rw [h0] at h1 ⊢
    rw [if_neg (by omega)]
    by_cases hr : off < 0 ∨ 4611686018427387903 - (data.length : Int) < off
    · rw [if_pos hr]
      refine fn_of_run (by kernel_rfl) Try.func5 rfl (by kernel_rfl) ?_
      (repeat' first | (refine s_call (h1) (h := ?_)) | (refine p_call (h1) (h := ?_)) | (refine s_dec (upTo_fn _ _) (ht := ?_) (hff := ?_) <;> intro _ <;> try (exfalso; omega)) | (refine p_dec (upTo_fn _ _) (ht := ?_) (hff := ?_) <;> intro _ <;> try (exfalso; omega)) | (refine go_ ?_; ((repeat' first | exact True.intro | refine Two.mk ?_ ?_); all_goals intros)) | fail "")
      all_goals first
        | (exact endwA_)
        | (exfalso; omega)
        | skip
    · rw [if_neg hr]
      by_cases hf : (0 ≤ g.Final ∧ (g.Final < off + data.length ∨ (fin = true ∧ off + data.length ≠ g.Final))) ∨ (fin = true ∧ off + data.length < gReach g)
      · rw [if_pos hf]
        cases fin
        all_goals
          refine fn_of_run (by kernel_rfl) Try.func5 rfl (by kernel_rfl) ?_
          (repeat' first | (refine s_call (h1) (h := ?_)) | (refine p_call (h1) (h := ?_)) | (refine s_call (hE) (h := ?_)) | (refine p_call (hE) (h := ?_)) | (refine s_dec (upTo_fn _ _) (ht := ?_) (hff := ?_) <;> intro _ <;> try (exfalso; omega)) | (refine p_dec (upTo_fn _ _) (ht := ?_) (hff := ?_) <;> intro _ <;> try (exfalso; omega)) | (refine go_ ?_; ((repeat' first | exact True.intro | refine Two.mk ?_ ?_); all_goals intros)) | fail "")
          all_goals first
            | (exact endwA_)
            | (exfalso; simp at hf; omega)
            | skip
      · rw [if_neg hf]
        by_cases hwd : g.Window < off + data.length
        · rw [if_pos hwd]
          cases fin
          all_goals
            refine fn_of_run (by kernel_rfl) Try.func5 rfl (by kernel_rfl) ?_
            (repeat' first | (refine s_call (h1) (h := ?_)) | (refine p_call (h1) (h := ?_)) | (refine s_call (hE) (h := ?_)) | (refine p_call (hE) (h := ?_)) | (refine s_dec (upTo_fn _ _) (ht := ?_) (hff := ?_) <;> intro _ <;> try (exfalso; omega)) | (refine p_dec (upTo_fn _ _) (ht := ?_) (hff := ?_) <;> intro _ <;> try (exfalso; omega)) | (refine go_ ?_; ((repeat' first | exact True.intro | refine Two.mk ?_ ?_); all_goals intros)) | fail "")
            all_goals first
              | (exact endwA_)
              | (exfalso; simp at hf; omega)
              | skip
        · rw [if_neg hwd]
          have hsame := put_same g off data hkH
          have hlenM := bAll_len (putsOf g off data) []
          have hplen : (putsOf g off data).length ≤ data.length + szP g.Held := by
            unfold putsOf
            rw [List.length_append, flP_len]
            have := List.length_filter_le (fun y => decide (g.Done ≤ y.1)) (fl off data)
            rw [fl_len] at this
            omega
          have hszH := szP_le hs
          have hkr : ∀ x ∈ ks (bAll [] (putsOf g off data)), 0 ≤ x ∧ x < 4611686018427387904 := ks_rng (fun y hy => by
            unfold putsOf at hy
            rcases List.mem_append.1 hy with hy | hy
            · have := fl_rng (x := y.1) (c := y.2) (List.mem_filter.1 hy).1; omega
            · obtain ⟨p, hp, hy⟩ := List.mem_flatMap.1 hy
              have := fl_rng (x := y.1) (c := y.2) hy
              have := hm p hp
              omega) (fun y hy => by cases hy)
          have hnd : (ks (bAll [] (putsOf g off data))).Nodup := nd_all _ _ (by simp [ks])
          generalize hMM : bAll [] (putsOf g off data) = MM at *
          unfold putsOf at hMM
          rw [bAll_app] at hMM
          have hMMl : MM.length ≤ 1048576 + 16777216 * 4 := by
            simp only [List.length_nil, Nat.zero_add] at hlenM
            have : 16777216 * g.Held.length ≤ 16777216 * 4 := Nat.mul_le_mul_left _ hh.2.2.2.2
            omega
          clear hlenM hplen hszH
          generalize hPL : mgL (ptL g off data) = PL at *
          clear hPL
          generalize hM1 : bAll [] ((fl off data).filter (fun y => decide (g.Done ≤ y.1))) = M1 at *
          cases fin
          · refine fn_of_run (by kernel_rfl) Try.func5 rfl (by kernel_rfl) ?_
            (repeat' first | (refine s_call (h1) (h := ?_)) | (refine p_call (h1) (h := ?_)) | (refine s_dec (upTo_fn _ _) (ht := ?_) (hff := ?_) <;> intro _ <;> try (exfalso; omega)) | (refine p_dec (upTo_fn _ _) (ht := ?_) (hff := ?_) <;> intro _ <;> try (exfalso; omega)) | (refine goU_ 7 ?_; ((repeat' first | exact True.intro | refine Two.mk ?_ ?_); all_goals intros)) | fail "")
            all_goals try (exfalso; omega)
            refine r_cut (fun _ : Unit => ⟨[(1, .lit (.int .i64 off)), (2, .ro (data.map encB)), (3, .lit (.bool false)), (4, .ptr 0 0 0 0), (8, .ptr 1 0 0 0), (9, .lit (.int .i64 0)), (11, .lit (.int .i64 (off + data.length)))], [(0, some (.box 24 (encGather g))), (1, some (.box 24 [.lit (.int .i64 0), .lit (.slice none 0 0), .lit (.int .i64 0), .lit (.int .i64 0)]))], 2, Try.f5.ntmps⟩) (fun _ => True) ?_ ?_
            · (repeat' first | (refine s_call (hE) (h := ?_)) | (refine p_call (hE) (h := ?_)) | (refine go_ ?_; ((repeat' first | exact True.intro | refine Two.mk ?_ ?_); all_goals intros)) | fail "")
              all_goals first
                | (refine ⟨(), ?_, ?_⟩; rotate_left 1; (exact lessA_); (focus (trivial)))
                | (exfalso; simp at hf; omega)
                | skip
            rintro ⟨⟩ -
            clear h1 hE hf
            (repeat' first | (refine go_ ?_; ((repeat' first | exact True.intro | refine Two.mk ?_ ?_); all_goals intros)) | fail "")
            all_goals try (exfalso; omega)
            · refine r_for (fun x : Nat × List (Int × UInt8) => ⟨[(1, .lit (.int .i64 off)), (2, .ro (data.map encB)), (3, .lit (.bool false)), (4, .ptr 0 0 0 0), (8, .ptr 1 0 0 0), (9, .lit (.int .i64 0)), (11, .lit (.int .i64 (off + data.length))), (12, .own 2), (75, .ro (data.map encB)), (76, .lit (.int .i64 data.length)), (77, .lit (.int .i64 x.1))], [(0, some (.box 24 (encGather g))), (1, some (.box 24 [.lit (.int .i64 0), .lit (.slice none 0 0), .lit (.int .i64 0), .lit (.int .i64 0)])), (2, some (.map (some .i64) (x.2.map kvB)))], 3, Try.f5.ntmps⟩)
                (fun x => x.1 ≤ data.length ∧ bAll x.2 ((fl (off + x.1) (data.drop x.1)).filter (fun y => decide (g.Done ≤ y.1))) = M1) (fun x => data.length - x.1) (0, []) ⟨Nat.zero_le _, by dsimp only; rw [List.drop_zero, show off + ((0 : Nat) : Int) = off by omega]; exact hM1⟩ (by (exact lessA_)) ?_
              clear hM1
              rintro ⟨k, M⟩ ⟨hk, hi⟩
              dsimp only at *
              by_cases hkn : k < data.length
              · rw [fl_drop hkn, List.filter_cons] at hi
                by_cases hdn : g.Done ≤ off + k
                · rw [if_pos (decide_eq_true hdn)] at hi
                  have hi : bAll (bput (off + k) (data.getD k default) M) ((fl (off + (k + 1 : Nat)) (data.drop (k + 1))).filter (fun y => decide (g.Done ≤ y.1))) = M1 := hi
                  have hput := mput_b (off + k) (data.getD k default) M
                  (repeat' first | (refine s_insertR (r := (bput (off + k) (data.getD k default) M).map kvB) ?_ (h := ?_); (focus ((exact hput)))) | (refine goI_ ?_; ((repeat' first | exact True.intro | refine Two.mk ?_ ?_); all_goals intros)) | refine s_i (h := ?_) | refine s_i (hq := q_index_ro rfl rfl rfl (by first | exact lit0 | exact lit1 | exact lit2 | exact lit3 | rfl) (by simp only [List.length_cons, List.length_nil]; omega) rfl rfl rfl rfl) (h := ?_) | refine p_i (h := ?_) | refine p_ih (h := ?_) | refine s_lit (h := ?_) | refine p_lit (h := ?_) | refine p_lit0 (h := ?_) | refine s_lit0 (h := ?_) | refine s_ixa (h := ?_) | refine s_insert (h := ?_) | (refine s_sadd rfl ?_ (h := ?_); (focus (first | omega | (simp only [List.length_append, List.length_map, List.length_cons, List.length_nil, List.length_take, List.length_drop]; omega)))) | (refine p_sadd rfl ?_ (h := ?_); (focus (first | omega | (simp only [List.length_append, List.length_map, List.length_cons, List.length_nil, List.length_take, List.length_drop]; omega)))) | fail "")
                  all_goals first
                    | (refine ⟨(k + 1, bput (off + k) (data.getD k default) M), ?_, ?_, ?_⟩; rotate_left 2; (exact lessA_); (focus (dsimp only; omega)); (focus (exact ⟨hkn, hi⟩)))
                    | (exfalso; omega)
                    | skip
                · rw [if_neg (by simp; omega)] at hi
                  (repeat' first | (refine go_ ?_; ((repeat' first | exact True.intro | refine Two.mk ?_ ?_); all_goals intros)) | fail "")
                  all_goals first
                    | (refine ⟨(k + 1, M), ?_, ?_, ?_⟩; rotate_left 2; (exact lessA_); (focus (dsimp only; omega)); (focus (exact ⟨hkn, hi⟩)))
                    | (exfalso; omega)
                    | skip
              have hkl : k = data.length := by omega
              subst hkl
              rw [List.drop_length] at hi
              have hi : M = M1 := hi
              subst hi
              clear hkn hk
              (repeat' first | (refine go_ ?_; ((repeat' first | exact True.intro | refine Two.mk ?_ ?_); all_goals intros)) | fail "")
              refine r_for (fun x : Nat × List (Int × UInt8) => ⟨[(3, .lit (.bool false)), (4, .ptr 0 0 0 0), (8, .ptr 1 0 0 0), (9, .lit (.int .i64 0)), (11, .lit (.int .i64 (off + data.length))), (12, .own 2), (95, .ro (g.Held.map encPiece)), (96, .lit (.int .i64 g.Held.length)), (97, .lit (.int .i64 x.1))], [(0, some (.box 24 (encGather g))), (1, some (.box 24 [.lit (.int .i64 0), .lit (.slice none 0 0), .lit (.int .i64 0), .lit (.int .i64 0)])), (2, some (.map (some .i64) (x.2.map kvB)))], 3, Try.f5.ntmps⟩)
                (fun x => x.1 ≤ g.Held.length ∧ bAll x.2 (flP (g.Held.drop x.1)) = MM) (fun x => g.Held.length - x.1) (0, M) ⟨Nat.zero_le _, hMM⟩ (by (exact lessA_)) ?_
              clear hMM
              rintro ⟨k, M⟩ ⟨hk, hi⟩
              dsimp only at *
              by_cases hkn : k < g.Held.length
              · rw [drop_cons hkn] at hi
                have hi : bAll M (fl (g.Held.getD k default).Off (g.Held.getD k default).Data ++ flP (g.Held.drop (k + 1))) = MM := hi
                have hp := hm _ (getD_mem hkn)
                have hpl := hs _ (getD_mem hkn)
                (repeat' first | (refine go_ ?_; ((repeat' first | exact True.intro | refine Two.mk ?_ ?_); all_goals intros)) | fail "")
                refine r_for (fun x : Nat × List (Int × UInt8) => ⟨[(3, .lit (.bool false)), (4, .ptr 0 0 0 0), (8, .ptr 1 0 0 0), (9, .lit (.int .i64 0)), (11, .lit (.int .i64 (off + data.length))), (12, .own 2), (95, .ro (g.Held.map encPiece)), (96, .lit (.int .i64 g.Held.length)), (97, .lit (.int .i64 k)), (16, .ptr 3 0 0 0), (102, .ro ((g.Held.getD k default).Data.map encB)), (103, .lit (.int .i64 (g.Held.getD k default).Data.length)), (104, .lit (.int .i64 x.1))], [(0, some (.box 24 (encGather g))), (1, some (.box 24 [.lit (.int .i64 0), .lit (.slice none 0 0), .lit (.int .i64 0), .lit (.int .i64 0)])), (2, some (.map (some .i64) (x.2.map kvB))), (3, some (.box 34 [.lit (.int .i64 (g.Held.getD k default).Off), .ro ((g.Held.getD k default).Data.map encB)]))], 4, Try.f5.ntmps⟩)
                  (fun x => x.1 ≤ (g.Held.getD k default).Data.length ∧ bAll x.2 (fl ((g.Held.getD k default).Off + x.1) ((g.Held.getD k default).Data.drop x.1) ++ flP (g.Held.drop (k + 1))) = MM) (fun x => (g.Held.getD k default).Data.length - x.1) (0, M) ⟨Nat.zero_le _, by dsimp only; rw [List.drop_zero, show (g.Held.getD k default).Off + ((0 : Nat) : Int) = (g.Held.getD k default).Off by omega]; exact hi⟩ (by (exact lessA_)) ?_
                clear hi
                rintro ⟨j, M⟩ ⟨hj, hi⟩
                dsimp only at *
                by_cases hjn : j < (g.Held.getD k default).Data.length
                · rw [fl_drop hjn] at hi
                  have hi : bAll (bput ((g.Held.getD k default).Off + j) ((g.Held.getD k default).Data.getD j default) M) (fl ((g.Held.getD k default).Off + (j + 1 : Nat)) ((g.Held.getD k default).Data.drop (j + 1)) ++ flP (g.Held.drop (k + 1))) = MM := hi
                  have hput := mput_b ((g.Held.getD k default).Off + j) ((g.Held.getD k default).Data.getD j default) M
                  (repeat' first | (refine s_insertR (r := (bput ((g.Held.getD k default).Off + j) ((g.Held.getD k default).Data.getD j default) M).map kvB) ?_ (h := ?_); (focus ((exact hput)))) | (refine goI_ ?_; ((repeat' first | exact True.intro | refine Two.mk ?_ ?_); all_goals intros)) | refine s_i (h := ?_) | refine s_i (hq := q_index_ro rfl rfl rfl (by first | exact lit0 | exact lit1 | exact lit2 | exact lit3 | rfl) (by simp only [List.length_cons, List.length_nil]; omega) rfl rfl rfl rfl) (h := ?_) | refine p_i (h := ?_) | refine p_ih (h := ?_) | refine s_lit (h := ?_) | refine p_lit (h := ?_) | refine p_lit0 (h := ?_) | refine s_lit0 (h := ?_) | refine s_ixa (h := ?_) | refine s_insert (h := ?_) | (refine s_sadd rfl ?_ (h := ?_); (focus (first | omega | (simp only [List.length_append, List.length_map, List.length_cons, List.length_nil, List.length_take, List.length_drop]; omega)))) | (refine p_sadd rfl ?_ (h := ?_); (focus (first | omega | (simp only [List.length_append, List.length_map, List.length_cons, List.length_nil, List.length_take, List.length_drop]; omega)))) | fail "")
                  all_goals first
                    | (refine ⟨(j + 1, bput ((g.Held.getD k default).Off + j) ((g.Held.getD k default).Data.getD j default) M), ?_, ?_, ?_⟩; rotate_left 2; (exact lessA_); (focus (dsimp only; omega)); (focus (exact ⟨hjn, hi⟩)))
                    | (exfalso; omega)
                    | skip
                · have hjl : j = (g.Held.getD k default).Data.length := by omega
                  subst hjl
                  rw [List.drop_length] at hi
                  have hi : bAll M (flP (g.Held.drop (k + 1))) = MM := hi
                  (repeat' first | (refine go_ ?_; ((repeat' first | exact True.intro | refine Two.mk ?_ ?_); all_goals intros)) | fail "")
                  all_goals first
                    | (refine ⟨(k + 1, M), ?_, ?_, ?_⟩; rotate_left 2; (exact lessA_); (focus (dsimp only; omega)); (focus (exact ⟨hkn, hi⟩)))
                    | (exfalso; omega)
                    | skip
              have hkl : k = g.Held.length := by omega
              subst hkl
              rw [List.drop_length] at hi
              have hi : M = MM := hi
              subst hi
              clear hkn hk hm hs
              generalize M = MM at *
              (repeat' first | (refine go_ ?_; ((repeat' first | exact True.intro | refine Two.mk ?_ ?_); all_goals intros)) | fail "")
              refine r_for (fun x : List (Int × UInt8) × List Int × Option (Value × Value) => ⟨[(3, .lit (.bool false)), (4, .ptr 0 0 0 0), (8, .ptr 1 0 0 0), (9, .lit (.int .i64 0)), (11, .lit (.int .i64 (off + data.length))), (12, .own 2), (19, .own 4), (118, .own 3)], [(0, some (.box 24 (encGather g))), (1, some (.box 24 [.lit (.int .i64 0), .lit (.slice none 0 0), .lit (.int .i64 0), .lit (.int .i64 0)])), (2, some (.fmap (some .i64) (MM.map kvB))), (3, some (.iter (x.1.map kvB) x.2.2)), (4, some (.row 3 1 (x.2.1.map encI)))], 5, Try.f5.ntmps⟩)
                (fun x => (x.2.1 ++ ks x.1).Perm (ks MM)) (fun x => x.1.length) (MM, [], none) (by dsimp only; rw [List.nil_append]) ((less_own (n := 4) (t := 19) 3 1 rfl rfl rfl).trans (by (exact lessA_))) ?_
              rintro ⟨L, pl, cur⟩ hpm
              dsimp only at *
              have hpl : pl.length + L.length = MM.length := by have := hpm.length_eq; simpa [ks] using this
              (repeat' first | refine s_nextMap (he := ?_) (h := ?_) | (refine go_ ?_; ((repeat' first | exact True.intro | refine Two.mk ?_ ?_); all_goals intros)) | fail "")
              · intro h0
                have hL : L = [] := List.map_eq_nil_iff.1 h0
                subst hL
                have hpm : pl.Perm (ks MM) := by simpa [ks] using hpm
                have hSort := sortInts_fnm pl (by omega)
                have hP1 := srt_perm pl
                have hP2 := srt_asc pl
                have hP3 := srt_len pl
                generalize srt pl = P at *
                have hPP := hP1.trans hpm
                have hsame := hsame P hP2 hPP
                have hPr : ∀ x ∈ P, 0 ≤ x ∧ x < 4611686018427387904 := fun x hx => hkr x (hPP.mem_iff.1 hx)
                have hPl : P.length ≤ 68157440 := by omega
                clear hkr hpm hP1 hP2 hP3 hPP hnd hpl
                (repeat' first | (refine s_callM [4] (hSort) (h := ?_)) | (refine s_callM0 [4] (hSort) (h := ?_)) | (refine p_callM [4] (hSort) (h := ?_)) | (refine goU_ 33 ?_; ((repeat' first | exact True.intro | refine Two.mk ?_ ?_); all_goals intros)) | fail "")
                clear hSort
                refine r_less (st' := ⟨[(3, .lit (.bool false)), (4, .ptr 0 0 0 0), (8, .ptr 1 0 0 0), (9, .lit (.int .i64 0)), (11, .lit (.int .i64 (off + data.length))), (12, .own 2), (19, .ro (P.map encI))], [(0, some (.box 24 (encGather g))), (1, some (.box 24 [.lit (.int .i64 0), .lit (.slice none 0 0), .lit (.int .i64 0), .lit (.int .i64 0)])), (2, some (.fmap (some .i64) (MM.map kvB)))], 3, Try.f5.ntmps⟩) (by (exact lessA_)) ?_
                (repeat' first | (refine go_ ?_; ((repeat' first | exact True.intro | refine Two.mk ?_ ?_); all_goals intros)) | fail "")
                refine r_for (fun x : Nat × Option (List DPiece × DPiece) => prS g (off + data.length) false MM P x.1 x.2)
                  (fun x => x.1 ≤ P.length ∧ mgAll x.2 ((P.drop x.1).map (fun z => one (z, bAt MM z))) = mgAll none (P.map (fun z => one (z, bAt MM z))) ∧ prOk P x.1 x.2) (fun x => P.length - x.1) (0, none) ⟨Nat.zero_le _, rfl, rfl⟩
                  (((less_own (n := 3) (t := 21) 34 2 rfl rfl rfl).trans (less_rox (id := 3) rfl)).trans less_to) ?_
                rintro ⟨k, x⟩ ⟨hk, hi, ho⟩
                cases x with
                | none =>
                  unfold prOk at ho
                  dsimp only [prS] at *
                  subst ho
                  by_cases hkn : 0 < P.length
                  · have hx := hPr _ (getD_mem hkn)
                    rw [drop_cons hkn] at hi
                    have hlk := look_bAt (P.getD 0 default) MM
                    (repeat' first | (refine goU_ 37 ?_; ((repeat' first | exact True.intro | refine Two.mk ?_ ?_); all_goals intros)) | fail "")
                    refine r_cut (fun _ : Unit => ⟨[(3, .lit (.bool false)), (4, .ptr 0 0 0 0), (8, .ptr 1 0 0 0), (9, .lit (.int .i64 0)), (11, .lit (.int .i64 (off + data.length))), (12, .own 2), (19, .ro (P.map encI)), (21, .own 5), (22, .lit (.int .i64 ((0 : Nat) : Int))), (23, .lit (.int .i64 (P.getD 0 default))), (129, .ro (P.map encI)), (130, .lit (.int .i64 P.length)), (131, .lit (.int .i64 ((0 : Nat) : Int)))], [(0, some (.box 24 (encGather g))), (1, some (.box 24 [.lit (.int .i64 0), .lit (.slice none 0 0), .lit (.int .i64 0), .lit (.int .i64 0)])), (2, some (.fmap (some .i64) (MM.map kvB))), (5, some (.rox 34 2 (([] : List DPiece).map encPiece ++ [[.lit (.int .i64 (P.getD 0 default)), .lit (.slice none 0 0)]])))], 6, Try.f5.ntmps⟩) (fun _ => True) ?_ ?_
                    · (repeat' first | refine s_i (hq := q_len_roxN (n := 0) rfl rfl rfl rfl rfl) (h := ?_) | refine s_litx (h := ?_) | (refine s_appx (r := ([] : List DPiece).map encPiece ++ [[.lit (.int .i64 (P.getD 0 default)), .lit (.slice none 0 0)]]) rfl ?_ ?_ (h := ?_); (focus (first | (simp; done) | ((conv => lhs; rhs; whnf); simp only [List.length_cons, List.length_nil]; omega) | ((conv => lhs; rhs; whnf); simp; done))); (focus (first | (simp; done) | omega))) | (refine goI_ ?_; ((repeat' first | exact True.intro | refine Two.mk ?_ ?_); all_goals intros)) | refine s_i (h := ?_) | refine s_i (hq := q_index_ro rfl rfl rfl (by first | exact lit0 | exact lit1 | exact lit2 | exact lit3 | rfl) (by simp only [List.length_cons, List.length_nil]; omega) rfl rfl rfl rfl) (h := ?_) | refine p_i (h := ?_) | refine p_ih (h := ?_) | refine s_lit (h := ?_) | refine p_lit (h := ?_) | refine p_lit0 (h := ?_) | refine s_lit0 (h := ?_) | refine s_ixa (h := ?_) | refine s_insert (h := ?_) | (refine s_sadd rfl ?_ (h := ?_); (focus (first | omega | (simp only [List.length_append, List.length_map, List.length_cons, List.length_nil, List.length_take, List.length_drop]; omega)))) | (refine p_sadd rfl ?_ (h := ?_); (focus (first | omega | (simp only [List.length_append, List.length_map, List.length_cons, List.length_nil, List.length_take, List.length_drop]; omega)))) | fail "")
                      all_goals first
                        | (refine ⟨(), ?_, ?_⟩; rotate_left 1; (exact lessA_); (focus (trivial)))
                        | (exfalso; omega)
                        | skip
                    rintro ⟨⟩ -
                    refine r_drawW [(18, 5)] (h := ?_)
                    (repeat' first | refine p_ih (hq := fun N => q_len_roxN (n := 1) rfl rfl rfl rfl (by simp)) (h := ?_) | refine p_ih (hq := fun N => q_index_rox (n := 0) rfl rfl rfl rfl (by omega) (by simp) rfl rfl) (h := ?_) | refine p_ih (hq := fun N => q_load_one rfl rfl rfl (reads_rox rfl (by simp) rfl (eAt_lastP (L := []))) rfl) (h := ?_) | refine p_lookF hlk (h := ?_) | (refine p_app0R (r := [(bAt MM (P.getD 0 default))].map encB) rfl ?_ ?_ ?_ (h := ?_); (focus (exact len_one rfl)); (focus (first | (simp; done) | ((conv => lhs; rhs; whnf); simp; done))); (focus (first | (simp; done) | omega))) | refine p_storex (l := ([] : List DPiece).map encPiece ++ [[.lit (.int .i64 (P.getD 0 default)), .lit (.slice none 0 0)]]) (i := 0) (j := 1) (vs := [.own 21]) (r := ([] : List DPiece).map encPiece ++ [[.lit (.int .i64 (P.getD 0 default)), .own 21]]) (by simp) (by rfl) (h := ?_) | (refine goI_ ?_; ((repeat' first | exact True.intro | refine Two.mk ?_ ?_); all_goals intros)) | refine s_i (h := ?_) | refine s_i (hq := q_index_ro rfl rfl rfl (by first | exact lit0 | exact lit1 | exact lit2 | exact lit3 | rfl) (by simp only [List.length_cons, List.length_nil]; omega) rfl rfl rfl rfl) (h := ?_) | refine p_i (h := ?_) | refine p_ih (h := ?_) | refine s_lit (h := ?_) | refine p_lit (h := ?_) | refine p_lit0 (h := ?_) | refine s_lit0 (h := ?_) | refine s_ixa (h := ?_) | refine s_insert (h := ?_) | (refine s_sadd rfl ?_ (h := ?_); (focus (first | omega | (simp only [List.length_append, List.length_map, List.length_cons, List.length_nil, List.length_take, List.length_drop]; omega)))) | (refine p_sadd rfl ?_ (h := ?_); (focus (first | omega | (simp only [List.length_append, List.length_map, List.length_cons, List.length_nil, List.length_take, List.length_drop]; omega)))) | fail "")
                    all_goals (refine ⟨(0 + 1, some ([], one (P.getD 0 default, bAt MM (P.getD 0 default)))), (by dsimp only; omega), ⟨hkn, hi, (by unfold prOk one; dsimp only; refine ⟨by omega, by simp, by simp, by simp, by simp⟩)⟩, ?_⟩)
                    dsimp only [prS, one]
                    exact less_renx [(0, 0), (1, 1), (2, 2), (5, 3), (21, 4)] rfl (by ((repeat' (first | exact True.intro | exact ex_sv rfl rfl | exact ex_int rfl (by first | rfl | omega | (dsimp only; omega)) | refine And.intro ?_ ?_)); done)) (And.intro ⟨rfl, _, rfl, .inl rfl⟩ (And.intro ⟨rfl, _, rfl, .inl rfl⟩ (And.intro ⟨rfl, _, rfl, .inl rfl⟩ (And.intro ⟨rfl, _, rfl, svX_snoc (l := []) (by simp) rfl⟩ (And.intro ⟨rfl, _, rfl, .inl rfl⟩ True.intro))))) rfl
                  · have hl0 : P = [] := List.eq_nil_of_length_eq_zero (by omega)
                    subst hl0
                    have hPL : PL = [] := by rw [← hsame]; rfl
                    subst hPL
                    rw [if_neg (by simp)]
                    first | rw [if_pos rfl] | rw [if_neg Bool.false_ne_true]
                    refine r_less (less_xrow (id := 3) rfl (fun i j hi => absurd hi (Nat.not_lt_zero _))) ?_
                    (repeat' first | (refine go_ ?_; ((repeat' first | exact True.intro | refine Two.mk ?_ ?_); all_goals intros)) | fail "")
                    all_goals first
                      | (exact endwA_)
                      | (exfalso; omega)
                      | skip
                | some y =>
                  obtain ⟨L, q⟩ := y
                  unfold prOk at ho
                  obtain ⟨k1, k2, k3, k4, k5⟩ := ho
                  dsimp only [prS] at *
                  by_cases hkn : k < P.length
                  · have hx := hPr _ (getD_mem hkn)
                    have hx1 := hPr _ (getD_mem (show k - 1 < P.length by omega))
                    rw [drop_cons hkn] at hi
                    have hlk := look_bAt (P.getD k default) MM
                    have hi : mgAll (mgAdd (some (L, q)) (one (P.getD k default, bAt MM (P.getD k default)))) ((P.drop (k + 1)).map (fun z => one (z, bAt MM z))) = mgAll none (P.map (fun z => one (z, bAt MM z))) := hi
                    by_cases ht : P.getD (k - 1) default = P.getD k default - 1
                    · rw [mgAdd_t (show q.Off + q.Data.length = P.getD k default by omega)] at hi
                      (repeat' first | (refine goU_ 37 ?_; ((repeat' first | exact True.intro | refine Two.mk ?_ ?_); all_goals intros)) | fail "")
                      refine r_cut (fun _ : Unit => ⟨[(3, .lit (.bool false)), (4, .ptr 0 0 0 0), (8, .ptr 1 0 0 0), (9, .lit (.int .i64 0)), (11, .lit (.int .i64 (off + data.length))), (12, .own 2), (19, .ro (P.map encI)), (21, .own 3), (22, .lit (.int .i64 k)), (23, .lit (.int .i64 (P.getD k default))), (129, .ro (P.map encI)), (130, .lit (.int .i64 P.length)), (131, .lit (.int .i64 k))], [(0, some (.box 24 (encGather g))), (1, some (.box 24 [.lit (.int .i64 0), .lit (.slice none 0 0), .lit (.int .i64 0), .lit (.int .i64 0)])), (2, some (.fmap (some .i64) (MM.map kvB))), (3, some (.rox 34 2 (L.map encPiece ++ [[.lit (.int .i64 q.Off), .own 4]]))), (4, some (.row 5 1 (q.Data.map encB)))], 5, Try.f5.ntmps⟩) (fun _ => True) ?_ ?_
                      · (repeat' first | (refine go_ ?_; ((repeat' first | exact True.intro | refine Two.mk ?_ ?_); all_goals intros)) | fail "")
                        refine ⟨(), trivial, ?_⟩
                        exact less_renx [(0, 0), (1, 1), (2, 2), (3, 3), (4, 4)] rfl (by ((repeat' (first | exact True.intro | exact ex_sv rfl rfl | exact ex_int rfl (by first | rfl | omega | (dsimp only; omega)) | refine And.intro ?_ ?_)); done)) (And.intro ⟨rfl, _, rfl, .inl rfl⟩ (And.intro ⟨rfl, _, rfl, .inl rfl⟩ (And.intro ⟨rfl, _, rfl, .inl rfl⟩ (And.intro ⟨rfl, _, rfl, svX_snoc (l := L.map encPiece) (map_pure L) rfl⟩ (And.intro ⟨rfl, _, rfl, .inl rfl⟩ True.intro))))) rfl
                      rintro ⟨⟩ -
                      refine r_drawW [(15, 4), (18, 3)] (h := ?_)
                      (repeat' first | refine p_ih (hq := fun N => q_len_roxN (n := L.length + 1) rfl rfl rfl rfl (by simp)) (h := ?_) | refine p_ih (hq := fun N => q_index_rox (n := L.length) rfl rfl rfl rfl (by omega) (by simp) rfl rfl) (h := ?_) | refine p_ih (hq := fun N => q_load_one rfl rfl rfl (reads_rox rfl (by simp) rfl eAt_lastP) rfl) (h := ?_) | refine p_lookF hlk (h := ?_) | (refine s_app (r := (q.Data ++ [(bAt MM (P.getD k default))]).map encB) ?_ ?_ ?_ ?_ (h := ?_); (focus (first | with_reducible rfl | with_reducible exact List.nil_append _ | with_reducible exact (List.map_append ..).symm | (rw [take_snoc (by assumption), List.map_append]; rfl) | (rw [List.map_append]; rfl) | (simp; done))); (focus (first | exact len_none | exact len_one rfl | exact len_two rfl rfl | exact len_enc (fun _ => rfl))); (focus ((conv => lhs; rhs; whnf); simp only [List.length_map, List.length_append, List.length_cons, List.length_nil, List.length_take]; omega)); (focus (simp only [List.length_map, List.length_append, List.length_cons, List.length_nil, List.length_take]; omega))) | (refine s_app0R (r := (q.Data ++ [(bAt MM (P.getD k default))]).map encB) ?_ ?_ ?_ ?_ (h := ?_); (focus (first | with_reducible rfl | with_reducible exact List.nil_append _ | with_reducible exact (List.map_append ..).symm | (rw [take_snoc (by assumption), List.map_append]; rfl) | (rw [List.map_append]; rfl) | (simp; done))); (focus (first | exact len_none | exact len_one rfl | exact len_two rfl rfl | exact len_enc (fun _ => rfl))); (focus ((conv => lhs; rhs; whnf); simp only [List.length_map, List.length_append, List.length_cons, List.length_nil, List.length_take]; omega)); (focus (simp only [List.length_map, List.length_append, List.length_cons, List.length_nil, List.length_take]; omega))) | (refine p_app (r := (q.Data ++ [(bAt MM (P.getD k default))]).map encB) ?_ ?_ ?_ ?_ (h := ?_); (focus (first | with_reducible rfl | with_reducible exact List.nil_append _ | with_reducible exact (List.map_append ..).symm | (rw [take_snoc (by assumption), List.map_append]; rfl) | (rw [List.map_append]; rfl) | (simp; done))); (focus (first | exact len_none | exact len_one rfl | exact len_two rfl rfl | exact len_enc (fun _ => rfl))); (focus ((conv => lhs; rhs; whnf); simp only [List.length_map, List.length_append, List.length_cons, List.length_nil, List.length_take]; omega)); (focus (simp only [List.length_map, List.length_append, List.length_cons, List.length_nil, List.length_take]; omega))) | (refine p_app0R (r := (q.Data ++ [(bAt MM (P.getD k default))]).map encB) ?_ ?_ ?_ ?_ (h := ?_); (focus (first | with_reducible rfl | with_reducible exact List.nil_append _ | with_reducible exact (List.map_append ..).symm | (rw [take_snoc (by assumption), List.map_append]; rfl) | (rw [List.map_append]; rfl) | (simp; done))); (focus (first | exact len_none | exact len_one rfl | exact len_two rfl rfl | exact len_enc (fun _ => rfl))); (focus ((conv => lhs; rhs; whnf); simp only [List.length_map, List.length_append, List.length_cons, List.length_nil, List.length_take]; omega)); (focus (simp only [List.length_map, List.length_append, List.length_cons, List.length_nil, List.length_take]; omega))) | refine p_storex (l := L.map encPiece ++ [[.lit (.int .i64 q.Off), .own 4]]) (i := L.length) (j := 1) (vs := [.own 20]) (r := L.map encPiece ++ [[.lit (.int .i64 q.Off), .own 20]]) (by simp) (by rw [eAt_lastP, set_lastP]; rfl) (h := ?_) | (refine goI_ ?_; ((repeat' first | exact True.intro | refine Two.mk ?_ ?_); all_goals intros)) | refine s_i (h := ?_) | refine s_i (hq := q_index_ro rfl rfl rfl (by first | exact lit0 | exact lit1 | exact lit2 | exact lit3 | rfl) (by simp only [List.length_cons, List.length_nil]; omega) rfl rfl rfl rfl) (h := ?_) | refine p_i (h := ?_) | refine p_ih (h := ?_) | refine s_lit (h := ?_) | refine p_lit (h := ?_) | refine p_lit0 (h := ?_) | refine s_lit0 (h := ?_) | refine s_ixa (h := ?_) | refine s_insert (h := ?_) | (refine s_sadd rfl ?_ (h := ?_); (focus (first | omega | (simp only [List.length_append, List.length_map, List.length_cons, List.length_nil, List.length_take, List.length_drop]; omega)))) | (refine p_sadd rfl ?_ (h := ?_); (focus (first | omega | (simp only [List.length_append, List.length_map, List.length_cons, List.length_nil, List.length_take, List.length_drop]; omega)))) | fail "")
                      all_goals (refine ⟨(k + 1, some (L, ⟨q.Off, q.Data ++ [bAt MM (P.getD k default)]⟩)), (by dsimp only; omega), ⟨hkn, hi, (by unfold prOk; dsimp only; rw [List.length_append, Nat.add_sub_cancel]; refine ⟨by omega, by omega, (by simp only [List.length_cons, List.length_nil]; omega), (by simp only [List.length_cons, List.length_nil]; omega), (by simp)⟩)⟩, ?_⟩)
                      dsimp only [prS]
                      exact less_renx [(0, 0), (1, 1), (2, 2), (3, 3), (20, 4)] rfl (by ((repeat' (first | exact True.intro | exact ex_sv rfl rfl | exact ex_int rfl (by first | rfl | omega | (dsimp only; omega)) | refine And.intro ?_ ?_)); done)) (And.intro ⟨rfl, _, rfl, .inl rfl⟩ (And.intro ⟨rfl, _, rfl, .inl rfl⟩ (And.intro ⟨rfl, _, rfl, .inl rfl⟩ (And.intro ⟨rfl, _, rfl, svX_snoc (l := L.map encPiece) (map_pure L) rfl⟩ (And.intro ⟨rfl, _, rfl, .inl rfl⟩ True.intro))))) rfl
                    · rw [mgAdd_f (show ¬ q.Off + q.Data.length = P.getD k default by omega)] at hi
                      (repeat' first | (refine goU_ 37 ?_; ((repeat' first | exact True.intro | refine Two.mk ?_ ?_); all_goals intros)) | fail "")
                      refine r_cut (fun _ : Unit => ⟨[(3, .lit (.bool false)), (4, .ptr 0 0 0 0), (8, .ptr 1 0 0 0), (9, .lit (.int .i64 0)), (11, .lit (.int .i64 (off + data.length))), (12, .own 2), (19, .ro (P.map encI)), (21, .own 6), (22, .lit (.int .i64 k)), (23, .lit (.int .i64 (P.getD k default))), (129, .ro (P.map encI)), (130, .lit (.int .i64 P.length)), (131, .lit (.int .i64 k))], [(0, some (.box 24 (encGather g))), (1, some (.box 24 [.lit (.int .i64 0), .lit (.slice none 0 0), .lit (.int .i64 0), .lit (.int .i64 0)])), (2, some (.fmap (some .i64) (MM.map kvB))), (6, some (.rox 34 2 ((L.map encPiece ++ [[.lit (.int .i64 q.Off), .own 4]]) ++ [[.lit (.int .i64 (P.getD k default)), .lit (.slice none 0 0)]]))), (4, some (.row 5 1 (q.Data.map encB)))], 7, Try.f5.ntmps⟩) (fun _ => True) ?_ ?_
                      · (repeat' first | refine s_litx (h := ?_) | (refine s_appx (r := (L.map encPiece ++ [[.lit (.int .i64 q.Off), .own 4]]) ++ [[.lit (.int .i64 (P.getD k default)), .lit (.slice none 0 0)]]) rfl ?_ ?_ (h := ?_); (focus ((conv => lhs; rhs; whnf); simp only [List.length_map, List.length_append, List.length_cons, List.length_nil]; omega)); (focus (simp only [List.length_map, List.length_append, List.length_cons, List.length_nil]; omega))) | (refine goI_ ?_; ((repeat' first | exact True.intro | refine Two.mk ?_ ?_); all_goals intros)) | refine s_i (h := ?_) | refine s_i (hq := q_index_ro rfl rfl rfl (by first | exact lit0 | exact lit1 | exact lit2 | exact lit3 | rfl) (by simp only [List.length_cons, List.length_nil]; omega) rfl rfl rfl rfl) (h := ?_) | refine p_i (h := ?_) | refine p_ih (h := ?_) | refine s_lit (h := ?_) | refine p_lit (h := ?_) | refine p_lit0 (h := ?_) | refine s_lit0 (h := ?_) | refine s_ixa (h := ?_) | refine s_insert (h := ?_) | (refine s_sadd rfl ?_ (h := ?_); (focus (first | omega | (simp only [List.length_append, List.length_map, List.length_cons, List.length_nil, List.length_take, List.length_drop]; omega)))) | (refine p_sadd rfl ?_ (h := ?_); (focus (first | omega | (simp only [List.length_append, List.length_map, List.length_cons, List.length_nil, List.length_take, List.length_drop]; omega)))) | fail "")
                        all_goals try (exfalso; omega)
                        refine ⟨(), trivial, ?_⟩
                        exact less_renx [(0, 0), (1, 1), (2, 2), (6, 6), (4, 4)] rfl (by ((repeat' (first | exact True.intro | exact ex_sv rfl rfl | exact ex_int rfl (by first | rfl | omega | (dsimp only; omega)) | refine And.intro ?_ ?_)); done)) (And.intro ⟨rfl, _, rfl, .inl rfl⟩ (And.intro ⟨rfl, _, rfl, .inl rfl⟩ (And.intro ⟨rfl, _, rfl, .inl rfl⟩ (And.intro ⟨rfl, _, rfl, svX_snoc2 L rfl rfl⟩ (And.intro ⟨rfl, _, rfl, .inl rfl⟩ True.intro))))) rfl
                      rintro ⟨⟩ -
                      refine r_drawW [(18, 6)] (h := ?_)
                      (repeat' first | refine p_ih (hq := fun N => q_len_roxN (n := L.length + 2) rfl rfl rfl rfl (by simp)) (h := ?_) | refine p_ih (hq := fun N => q_index_rox (n := L.length + 1) rfl rfl rfl rfl (by omega) (by simp) rfl rfl) (h := ?_) | refine p_ih (hq := fun N => q_load_one rfl rfl rfl (reads_rox rfl (by simp) rfl (eAt_snocN (by simp))) rfl) (h := ?_) | refine p_lookF hlk (h := ?_) | (refine p_app0R (r := [(bAt MM (P.getD k default))].map encB) rfl ?_ ?_ ?_ (h := ?_); (focus (exact len_one rfl)); (focus (first | (simp; done) | ((conv => lhs; rhs; whnf); simp; done))); (focus (first | (simp; done) | omega))) | refine p_storex (l := (L.map encPiece ++ [[.lit (.int .i64 q.Off), .own 4]]) ++ [[.lit (.int .i64 (P.getD k default)), .lit (.slice none 0 0)]]) (i := L.length + 1) (j := 1) (vs := [.own 22]) (r := (L.map encPiece ++ [[.lit (.int .i64 q.Off), .own 4]]) ++ [[.lit (.int .i64 (P.getD k default)), .own 22]]) (by simp) (by rw [eAt_snocN (by simp), set_snocN (by simp)]; rfl) (h := ?_) | (refine goI_ ?_; ((repeat' first | exact True.intro | refine Two.mk ?_ ?_); all_goals intros)) | refine s_i (h := ?_) | refine s_i (hq := q_index_ro rfl rfl rfl (by first | exact lit0 | exact lit1 | exact lit2 | exact lit3 | rfl) (by simp only [List.length_cons, List.length_nil]; omega) rfl rfl rfl rfl) (h := ?_) | refine p_i (h := ?_) | refine p_ih (h := ?_) | refine s_lit (h := ?_) | refine p_lit (h := ?_) | refine p_lit0 (h := ?_) | refine s_lit0 (h := ?_) | refine s_ixa (h := ?_) | refine s_insert (h := ?_) | (refine s_sadd rfl ?_ (h := ?_); (focus (first | omega | (simp only [List.length_append, List.length_map, List.length_cons, List.length_nil, List.length_take, List.length_drop]; omega)))) | (refine p_sadd rfl ?_ (h := ?_); (focus (first | omega | (simp only [List.length_append, List.length_map, List.length_cons, List.length_nil, List.length_take, List.length_drop]; omega)))) | fail "")
                      all_goals (refine ⟨(k + 1, some (L ++ [q], one (P.getD k default, bAt MM (P.getD k default)))), (by dsimp only; omega), ⟨hkn, hi, (by unfold prOk one; dsimp only; rw [List.length_append, Nat.add_sub_cancel]; refine ⟨by omega, by simp; omega, by simp, by simp, by simp⟩)⟩, ?_⟩)
                      dsimp only [prS, one]
                      refine (less_fro (id := 4) rfl).trans ((less_xone (id := 6) (m := 4) (A := L.map encPiece) (a := .lit (.int .i64 q.Off)) (B := [[.lit (.int .i64 (P.getD k default)), .own 22]]) (l' := (L ++ [q]).map encPiece ++ [[.lit (.int .i64 (P.getD k default)), .own 22]]) rfl rfl (by rw [List.append_assoc]; rfl) (by rw [List.map_append, List.append_assoc]; rfl)).trans ?_)
                      exact less_renx [(0, 0), (1, 1), (2, 2), (6, 3), (22, 4)] rfl (by ((repeat' (first | exact True.intro | exact ex_sv rfl rfl | exact ex_int rfl (by first | rfl | omega | (dsimp only; omega)) | refine And.intro ?_ ?_)); done)) (And.intro ⟨rfl, _, rfl, .inl rfl⟩ (And.intro ⟨rfl, _, rfl, .inl rfl⟩ (And.intro ⟨rfl, _, rfl, .inl rfl⟩ (And.intro ⟨rfl, _, rfl, svX_snoc (l := (L ++ [q]).map encPiece) (map_pure _) rfl⟩ (And.intro ⟨rfl, _, rfl, .inl rfl⟩ True.intro))))) rfl
                  · have hkl : k = P.length := by omega
                    subst hkl
                    rw [List.drop_length] at hi
                    have hr : PL = L ++ [q] := by rw [← hsame]; unfold mgL; show mgOut (mgAll none (P.map (fun z => one (z, bAt MM z)))) = _; rw [← hi]; rfl
                    subst hr
                    refine r_less ((less_fro (id := 4) rfl).trans ((less_xone (id := 3) (m := 4) (A := L.map encPiece) (a := .lit (.int .i64 q.Off)) (B := []) (l' := (L ++ [q]).map encPiece) rfl rfl rfl (by rw [List.map_append]; rfl)).trans (less_xall (id := 3) rfl encPiece_all))) ?_
                    generalize L ++ [q] = PL at *
                    by_cases h5 : 4 < PL.length
                    · rw [if_pos h5]
                      (repeat' first | (refine go_ ?_; ((repeat' first | exact True.intro | refine Two.mk ?_ ?_); all_goals intros)) | fail "")
                      all_goals first
                        | (exact endwA_)
                        | (exfalso; omega)
                        | skip
                    · rw [if_neg h5]
                      first | rw [if_pos rfl] | rw [if_neg Bool.false_ne_true]
                      (repeat' first | (refine go_ ?_; ((repeat' first | exact True.intro | refine Two.mk ?_ ?_); all_goals intros)) | fail "")
                      all_goals first
                        | (exact endwA_)
                        | (exfalso; omega)
                        | skip
              · intro i hi
                have hi' : i < L.length := by simpa using hi
                have hp2 : ((pl ++ [L[i].1]) ++ ks (L.eraseIdx i)).Perm (ks MM) := by
                  refine List.Perm.trans ?_ hpm
                  rw [List.append_assoc]
                  refine List.Perm.append_left pl ?_
                  exact perm_erase L i hi'
                have hll : (L.eraseIdx i).length < L.length := by rw [List.length_eraseIdx, if_pos hi']; omega
                rw [show (L.map kvB)[i] = kvB L[i] from List.getElem_map .., ← erase_map]
                generalize L.eraseIdx i = L2 at *
                generalize L[i] = y at *
                obtain ⟨yk, yc⟩ := y
                dsimp only [kvB] at *
                clear hsame hkr hpm
                (repeat' first | (refine s_app (r := (pl ++ [yk]).map encI) ?_ ?_ ?_ ?_ (h := ?_); (focus (first | with_reducible rfl | with_reducible exact List.nil_append _ | with_reducible exact (List.map_append ..).symm | (rw [take_snoc (by assumption), List.map_append]; rfl) | (rw [List.map_append]; rfl) | (simp; done))); (focus (first | exact len_none | exact len_one rfl | exact len_two rfl rfl | exact len_enc (fun _ => rfl))); (focus ((conv => lhs; rhs; whnf); simp only [List.length_map, List.length_append, List.length_cons, List.length_nil, List.length_take]; omega)); (focus (simp only [List.length_map, List.length_append, List.length_cons, List.length_nil, List.length_take]; omega))) | (refine s_app0R (r := (pl ++ [yk]).map encI) ?_ ?_ ?_ ?_ (h := ?_); (focus (first | with_reducible rfl | with_reducible exact List.nil_append _ | with_reducible exact (List.map_append ..).symm | (rw [take_snoc (by assumption), List.map_append]; rfl) | (rw [List.map_append]; rfl) | (simp; done))); (focus (first | exact len_none | exact len_one rfl | exact len_two rfl rfl | exact len_enc (fun _ => rfl))); (focus ((conv => lhs; rhs; whnf); simp only [List.length_map, List.length_append, List.length_cons, List.length_nil, List.length_take]; omega)); (focus (simp only [List.length_map, List.length_append, List.length_cons, List.length_nil, List.length_take]; omega))) | (refine p_app (r := (pl ++ [yk]).map encI) ?_ ?_ ?_ ?_ (h := ?_); (focus (first | with_reducible rfl | with_reducible exact List.nil_append _ | with_reducible exact (List.map_append ..).symm | (rw [take_snoc (by assumption), List.map_append]; rfl) | (rw [List.map_append]; rfl) | (simp; done))); (focus (first | exact len_none | exact len_one rfl | exact len_two rfl rfl | exact len_enc (fun _ => rfl))); (focus ((conv => lhs; rhs; whnf); simp only [List.length_map, List.length_append, List.length_cons, List.length_nil, List.length_take]; omega)); (focus (simp only [List.length_map, List.length_append, List.length_cons, List.length_nil, List.length_take]; omega))) | (refine p_app0R (r := (pl ++ [yk]).map encI) ?_ ?_ ?_ ?_ (h := ?_); (focus (first | with_reducible rfl | with_reducible exact List.nil_append _ | with_reducible exact (List.map_append ..).symm | (rw [take_snoc (by assumption), List.map_append]; rfl) | (rw [List.map_append]; rfl) | (simp; done))); (focus (first | exact len_none | exact len_one rfl | exact len_two rfl rfl | exact len_enc (fun _ => rfl))); (focus ((conv => lhs; rhs; whnf); simp only [List.length_map, List.length_append, List.length_cons, List.length_nil, List.length_take]; omega)); (focus (simp only [List.length_map, List.length_append, List.length_cons, List.length_nil, List.length_take]; omega))) | (refine go_ ?_; ((repeat' first | exact True.intro | refine Two.mk ?_ ?_); all_goals intros)) | fail "")
                all_goals first
                  | (refine ⟨(L2, pl ++ [yk], some (kvB (yk, yc))), ?_, ?_, ?_⟩; rotate_left 2; (exact lessA_); (focus (dsimp only; exact hll)); (focus (exact hp2)))
                  | (exfalso; omega)
                  | skip
          · refine fn_of_run (by kernel_rfl) Try.func5 rfl (by kernel_rfl) ?_
            (repeat' first | (refine s_call (h1) (h := ?_)) | (refine p_call (h1) (h := ?_)) | (refine s_dec (upTo_fn _ _) (ht := ?_) (hff := ?_) <;> intro _ <;> try (exfalso; omega)) | (refine p_dec (upTo_fn _ _) (ht := ?_) (hff := ?_) <;> intro _ <;> try (exfalso; omega)) | (refine goU_ 7 ?_; ((repeat' first | exact True.intro | refine Two.mk ?_ ?_); all_goals intros)) | fail "")
            all_goals try (exfalso; omega)
            refine r_cut (fun _ : Unit => ⟨[(1, .lit (.int .i64 off)), (2, .ro (data.map encB)), (3, .lit (.bool true)), (4, .ptr 0 0 0 0), (8, .ptr 1 0 0 0), (9, .lit (.int .i64 0)), (11, .lit (.int .i64 (off + data.length)))], [(0, some (.box 24 (encGather g))), (1, some (.box 24 [.lit (.int .i64 0), .lit (.slice none 0 0), .lit (.int .i64 0), .lit (.int .i64 0)]))], 2, Try.f5.ntmps⟩) (fun _ => True) ?_ ?_
            · (repeat' first | (refine s_call (hE) (h := ?_)) | (refine p_call (hE) (h := ?_)) | (refine go_ ?_; ((repeat' first | exact True.intro | refine Two.mk ?_ ?_); all_goals intros)) | fail "")
              all_goals first
                | (refine ⟨(), ?_, ?_⟩; rotate_left 1; (exact lessA_); (focus (trivial)))
                | (exfalso; simp at hf; omega)
                | skip
            rintro ⟨⟩ -
            clear h1 hE hf
            (repeat' first | (refine go_ ?_; ((repeat' first | exact True.intro | refine Two.mk ?_ ?_); all_goals intros)) | fail "")
            all_goals try (exfalso; omega)
            · refine r_for (fun x : Nat × List (Int × UInt8) => ⟨[(1, .lit (.int .i64 off)), (2, .ro (data.map encB)), (3, .lit (.bool true)), (4, .ptr 0 0 0 0), (8, .ptr 1 0 0 0), (9, .lit (.int .i64 0)), (11, .lit (.int .i64 (off + data.length))), (12, .own 2), (75, .ro (data.map encB)), (76, .lit (.int .i64 data.length)), (77, .lit (.int .i64 x.1))], [(0, some (.box 24 (encGather g))), (1, some (.box 24 [.lit (.int .i64 0), .lit (.slice none 0 0), .lit (.int .i64 0), .lit (.int .i64 0)])), (2, some (.map (some .i64) (x.2.map kvB)))], 3, Try.f5.ntmps⟩)
                (fun x => x.1 ≤ data.length ∧ bAll x.2 ((fl (off + x.1) (data.drop x.1)).filter (fun y => decide (g.Done ≤ y.1))) = M1) (fun x => data.length - x.1) (0, []) ⟨Nat.zero_le _, by dsimp only; rw [List.drop_zero, show off + ((0 : Nat) : Int) = off by omega]; exact hM1⟩ (by (exact lessA_)) ?_
              clear hM1
              rintro ⟨k, M⟩ ⟨hk, hi⟩
              dsimp only at *
              by_cases hkn : k < data.length
              · rw [fl_drop hkn, List.filter_cons] at hi
                by_cases hdn : g.Done ≤ off + k
                · rw [if_pos (decide_eq_true hdn)] at hi
                  have hi : bAll (bput (off + k) (data.getD k default) M) ((fl (off + (k + 1 : Nat)) (data.drop (k + 1))).filter (fun y => decide (g.Done ≤ y.1))) = M1 := hi
                  have hput := mput_b (off + k) (data.getD k default) M
                  (repeat' first | (refine s_insertR (r := (bput (off + k) (data.getD k default) M).map kvB) ?_ (h := ?_); (focus ((exact hput)))) | (refine goI_ ?_; ((repeat' first | exact True.intro | refine Two.mk ?_ ?_); all_goals intros)) | refine s_i (h := ?_) | refine s_i (hq := q_index_ro rfl rfl rfl (by first | exact lit0 | exact lit1 | exact lit2 | exact lit3 | rfl) (by simp only [List.length_cons, List.length_nil]; omega) rfl rfl rfl rfl) (h := ?_) | refine p_i (h := ?_) | refine p_ih (h := ?_) | refine s_lit (h := ?_) | refine p_lit (h := ?_) | refine p_lit0 (h := ?_) | refine s_lit0 (h := ?_) | refine s_ixa (h := ?_) | refine s_insert (h := ?_) | (refine s_sadd rfl ?_ (h := ?_); (focus (first | omega | (simp only [List.length_append, List.length_map, List.length_cons, List.length_nil, List.length_take, List.length_drop]; omega)))) | (refine p_sadd rfl ?_ (h := ?_); (focus (first | omega | (simp only [List.length_append, List.length_map, List.length_cons, List.length_nil, List.length_take, List.length_drop]; omega)))) | fail "")
                  all_goals first
                    | (refine ⟨(k + 1, bput (off + k) (data.getD k default) M), ?_, ?_, ?_⟩; rotate_left 2; (exact lessA_); (focus (dsimp only; omega)); (focus (exact ⟨hkn, hi⟩)))
                    | (exfalso; omega)
                    | skip
                · rw [if_neg (by simp; omega)] at hi
                  (repeat' first | (refine go_ ?_; ((repeat' first | exact True.intro | refine Two.mk ?_ ?_); all_goals intros)) | fail "")
                  all_goals first
                    | (refine ⟨(k + 1, M), ?_, ?_, ?_⟩; rotate_left 2; (exact lessA_); (focus (dsimp only; omega)); (focus (exact ⟨hkn, hi⟩)))
                    | (exfalso; omega)
                    | skip
              have hkl : k = data.length := by omega
              subst hkl
              rw [List.drop_length] at hi
              have hi : M = M1 := hi
              subst hi
              clear hkn hk
              (repeat' first | (refine go_ ?_; ((repeat' first | exact True.intro | refine Two.mk ?_ ?_); all_goals intros)) | fail "")
              refine r_for (fun x : Nat × List (Int × UInt8) => ⟨[(3, .lit (.bool true)), (4, .ptr 0 0 0 0), (8, .ptr 1 0 0 0), (9, .lit (.int .i64 0)), (11, .lit (.int .i64 (off + data.length))), (12, .own 2), (95, .ro (g.Held.map encPiece)), (96, .lit (.int .i64 g.Held.length)), (97, .lit (.int .i64 x.1))], [(0, some (.box 24 (encGather g))), (1, some (.box 24 [.lit (.int .i64 0), .lit (.slice none 0 0), .lit (.int .i64 0), .lit (.int .i64 0)])), (2, some (.map (some .i64) (x.2.map kvB)))], 3, Try.f5.ntmps⟩)
                (fun x => x.1 ≤ g.Held.length ∧ bAll x.2 (flP (g.Held.drop x.1)) = MM) (fun x => g.Held.length - x.1) (0, M) ⟨Nat.zero_le _, hMM⟩ (by (exact lessA_)) ?_
              clear hMM
              rintro ⟨k, M⟩ ⟨hk, hi⟩
              dsimp only at *
              by_cases hkn : k < g.Held.length
              · rw [drop_cons hkn] at hi
                have hi : bAll M (fl (g.Held.getD k default).Off (g.Held.getD k default).Data ++ flP (g.Held.drop (k + 1))) = MM := hi
                have hp := hm _ (getD_mem hkn)
                have hpl := hs _ (getD_mem hkn)
                (repeat' first | (refine go_ ?_; ((repeat' first | exact True.intro | refine Two.mk ?_ ?_); all_goals intros)) | fail "")
                refine r_for (fun x : Nat × List (Int × UInt8) => ⟨[(3, .lit (.bool true)), (4, .ptr 0 0 0 0), (8, .ptr 1 0 0 0), (9, .lit (.int .i64 0)), (11, .lit (.int .i64 (off + data.length))), (12, .own 2), (95, .ro (g.Held.map encPiece)), (96, .lit (.int .i64 g.Held.length)), (97, .lit (.int .i64 k)), (16, .ptr 3 0 0 0), (102, .ro ((g.Held.getD k default).Data.map encB)), (103, .lit (.int .i64 (g.Held.getD k default).Data.length)), (104, .lit (.int .i64 x.1))], [(0, some (.box 24 (encGather g))), (1, some (.box 24 [.lit (.int .i64 0), .lit (.slice none 0 0), .lit (.int .i64 0), .lit (.int .i64 0)])), (2, some (.map (some .i64) (x.2.map kvB))), (3, some (.box 34 [.lit (.int .i64 (g.Held.getD k default).Off), .ro ((g.Held.getD k default).Data.map encB)]))], 4, Try.f5.ntmps⟩)
                  (fun x => x.1 ≤ (g.Held.getD k default).Data.length ∧ bAll x.2 (fl ((g.Held.getD k default).Off + x.1) ((g.Held.getD k default).Data.drop x.1) ++ flP (g.Held.drop (k + 1))) = MM) (fun x => (g.Held.getD k default).Data.length - x.1) (0, M) ⟨Nat.zero_le _, by dsimp only; rw [List.drop_zero, show (g.Held.getD k default).Off + ((0 : Nat) : Int) = (g.Held.getD k default).Off by omega]; exact hi⟩ (by (exact lessA_)) ?_
                clear hi
                rintro ⟨j, M⟩ ⟨hj, hi⟩
                dsimp only at *
                by_cases hjn : j < (g.Held.getD k default).Data.length
                · rw [fl_drop hjn] at hi
                  have hi : bAll (bput ((g.Held.getD k default).Off + j) ((g.Held.getD k default).Data.getD j default) M) (fl ((g.Held.getD k default).Off + (j + 1 : Nat)) ((g.Held.getD k default).Data.drop (j + 1)) ++ flP (g.Held.drop (k + 1))) = MM := hi
                  have hput := mput_b ((g.Held.getD k default).Off + j) ((g.Held.getD k default).Data.getD j default) M
                  (repeat' first | (refine s_insertR (r := (bput ((g.Held.getD k default).Off + j) ((g.Held.getD k default).Data.getD j default) M).map kvB) ?_ (h := ?_); (focus ((exact hput)))) | (refine goI_ ?_; ((repeat' first | exact True.intro | refine Two.mk ?_ ?_); all_goals intros)) | refine s_i (h := ?_) | refine s_i (hq := q_index_ro rfl rfl rfl (by first | exact lit0 | exact lit1 | exact lit2 | exact lit3 | rfl) (by simp only [List.length_cons, List.length_nil]; omega) rfl rfl rfl rfl) (h := ?_) | refine p_i (h := ?_) | refine p_ih (h := ?_) | refine s_lit (h := ?_) | refine p_lit (h := ?_) | refine p_lit0 (h := ?_) | refine s_lit0 (h := ?_) | refine s_ixa (h := ?_) | refine s_insert (h := ?_) | (refine s_sadd rfl ?_ (h := ?_); (focus (first | omega | (simp only [List.length_append, List.length_map, List.length_cons, List.length_nil, List.length_take, List.length_drop]; omega)))) | (refine p_sadd rfl ?_ (h := ?_); (focus (first | omega | (simp only [List.length_append, List.length_map, List.length_cons, List.length_nil, List.length_take, List.length_drop]; omega)))) | fail "")
                  all_goals first
                    | (refine ⟨(j + 1, bput ((g.Held.getD k default).Off + j) ((g.Held.getD k default).Data.getD j default) M), ?_, ?_, ?_⟩; rotate_left 2; (exact lessA_); (focus (dsimp only; omega)); (focus (exact ⟨hjn, hi⟩)))
                    | (exfalso; omega)
                    | skip
                · have hjl : j = (g.Held.getD k default).Data.length := by omega
                  subst hjl
                  rw [List.drop_length] at hi
                  have hi : bAll M (flP (g.Held.drop (k + 1))) = MM := hi
                  (repeat' first | (refine go_ ?_; ((repeat' first | exact True.intro | refine Two.mk ?_ ?_); all_goals intros)) | fail "")
                  all_goals first
                    | (refine ⟨(k + 1, M), ?_, ?_, ?_⟩; rotate_left 2; (exact lessA_); (focus (dsimp only; omega)); (focus (exact ⟨hkn, hi⟩)))
                    | (exfalso; omega)
                    | skip
              have hkl : k = g.Held.length := by omega
              subst hkl
              rw [List.drop_length] at hi
              have hi : M = MM := hi
              subst hi
              clear hkn hk hm hs
              generalize M = MM at *
              (repeat' first | (refine go_ ?_; ((repeat' first | exact True.intro | refine Two.mk ?_ ?_); all_goals intros)) | fail "")
              refine r_for (fun x : List (Int × UInt8) × List Int × Option (Value × Value) => ⟨[(3, .lit (.bool true)), (4, .ptr 0 0 0 0), (8, .ptr 1 0 0 0), (9, .lit (.int .i64 0)), (11, .lit (.int .i64 (off + data.length))), (12, .own 2), (19, .own 4), (118, .own 3)], [(0, some (.box 24 (encGather g))), (1, some (.box 24 [.lit (.int .i64 0), .lit (.slice none 0 0), .lit (.int .i64 0), .lit (.int .i64 0)])), (2, some (.fmap (some .i64) (MM.map kvB))), (3, some (.iter (x.1.map kvB) x.2.2)), (4, some (.row 3 1 (x.2.1.map encI)))], 5, Try.f5.ntmps⟩)
                (fun x => (x.2.1 ++ ks x.1).Perm (ks MM)) (fun x => x.1.length) (MM, [], none) (by dsimp only; rw [List.nil_append]) ((less_own (n := 4) (t := 19) 3 1 rfl rfl rfl).trans (by (exact lessA_))) ?_
              rintro ⟨L, pl, cur⟩ hpm
              dsimp only at *
              have hpl : pl.length + L.length = MM.length := by have := hpm.length_eq; simpa [ks] using this
              (repeat' first | refine s_nextMap (he := ?_) (h := ?_) | (refine go_ ?_; ((repeat' first | exact True.intro | refine Two.mk ?_ ?_); all_goals intros)) | fail "")
              · intro h0
                have hL : L = [] := List.map_eq_nil_iff.1 h0
                subst hL
                have hpm : pl.Perm (ks MM) := by simpa [ks] using hpm
                have hSort := sortInts_fnm pl (by omega)
                have hP1 := srt_perm pl
                have hP2 := srt_asc pl
                have hP3 := srt_len pl
                generalize srt pl = P at *
                have hPP := hP1.trans hpm
                have hsame := hsame P hP2 hPP
                have hPr : ∀ x ∈ P, 0 ≤ x ∧ x < 4611686018427387904 := fun x hx => hkr x (hPP.mem_iff.1 hx)
                have hPl : P.length ≤ 68157440 := by omega
                clear hkr hpm hP1 hP2 hP3 hPP hnd hpl
                (repeat' first | (refine s_callM [4] (hSort) (h := ?_)) | (refine s_callM0 [4] (hSort) (h := ?_)) | (refine p_callM [4] (hSort) (h := ?_)) | (refine goU_ 33 ?_; ((repeat' first | exact True.intro | refine Two.mk ?_ ?_); all_goals intros)) | fail "")
                clear hSort
                refine r_less (st' := ⟨[(3, .lit (.bool true)), (4, .ptr 0 0 0 0), (8, .ptr 1 0 0 0), (9, .lit (.int .i64 0)), (11, .lit (.int .i64 (off + data.length))), (12, .own 2), (19, .ro (P.map encI))], [(0, some (.box 24 (encGather g))), (1, some (.box 24 [.lit (.int .i64 0), .lit (.slice none 0 0), .lit (.int .i64 0), .lit (.int .i64 0)])), (2, some (.fmap (some .i64) (MM.map kvB)))], 3, Try.f5.ntmps⟩) (by (exact lessA_)) ?_
                (repeat' first | (refine go_ ?_; ((repeat' first | exact True.intro | refine Two.mk ?_ ?_); all_goals intros)) | fail "")
                refine r_for (fun x : Nat × Option (List DPiece × DPiece) => prS g (off + data.length) true MM P x.1 x.2)
                  (fun x => x.1 ≤ P.length ∧ mgAll x.2 ((P.drop x.1).map (fun z => one (z, bAt MM z))) = mgAll none (P.map (fun z => one (z, bAt MM z))) ∧ prOk P x.1 x.2) (fun x => P.length - x.1) (0, none) ⟨Nat.zero_le _, rfl, rfl⟩
                  (((less_own (n := 3) (t := 21) 34 2 rfl rfl rfl).trans (less_rox (id := 3) rfl)).trans less_to) ?_
                rintro ⟨k, x⟩ ⟨hk, hi, ho⟩
                cases x with
                | none =>
                  unfold prOk at ho
                  dsimp only [prS] at *
                  subst ho
                  by_cases hkn : 0 < P.length
                  · have hx := hPr _ (getD_mem hkn)
                    rw [drop_cons hkn] at hi
                    have hlk := look_bAt (P.getD 0 default) MM
                    (repeat' first | (refine goU_ 37 ?_; ((repeat' first | exact True.intro | refine Two.mk ?_ ?_); all_goals intros)) | fail "")
                    refine r_cut (fun _ : Unit => ⟨[(3, .lit (.bool true)), (4, .ptr 0 0 0 0), (8, .ptr 1 0 0 0), (9, .lit (.int .i64 0)), (11, .lit (.int .i64 (off + data.length))), (12, .own 2), (19, .ro (P.map encI)), (21, .own 5), (22, .lit (.int .i64 ((0 : Nat) : Int))), (23, .lit (.int .i64 (P.getD 0 default))), (129, .ro (P.map encI)), (130, .lit (.int .i64 P.length)), (131, .lit (.int .i64 ((0 : Nat) : Int)))], [(0, some (.box 24 (encGather g))), (1, some (.box 24 [.lit (.int .i64 0), .lit (.slice none 0 0), .lit (.int .i64 0), .lit (.int .i64 0)])), (2, some (.fmap (some .i64) (MM.map kvB))), (5, some (.rox 34 2 (([] : List DPiece).map encPiece ++ [[.lit (.int .i64 (P.getD 0 default)), .lit (.slice none 0 0)]])))], 6, Try.f5.ntmps⟩) (fun _ => True) ?_ ?_
                    · (repeat' first | refine s_i (hq := q_len_roxN (n := 0) rfl rfl rfl rfl rfl) (h := ?_) | refine s_litx (h := ?_) | (refine s_appx (r := ([] : List DPiece).map encPiece ++ [[.lit (.int .i64 (P.getD 0 default)), .lit (.slice none 0 0)]]) rfl ?_ ?_ (h := ?_); (focus (first | (simp; done) | ((conv => lhs; rhs; whnf); simp only [List.length_cons, List.length_nil]; omega) | ((conv => lhs; rhs; whnf); simp; done))); (focus (first | (simp; done) | omega))) | (refine goI_ ?_; ((repeat' first | exact True.intro | refine Two.mk ?_ ?_); all_goals intros)) | refine s_i (h := ?_) | refine s_i (hq := q_index_ro rfl rfl rfl (by first | exact lit0 | exact lit1 | exact lit2 | exact lit3 | rfl) (by simp only [List.length_cons, List.length_nil]; omega) rfl rfl rfl rfl) (h := ?_) | refine p_i (h := ?_) | refine p_ih (h := ?_) | refine s_lit (h := ?_) | refine p_lit (h := ?_) | refine p_lit0 (h := ?_) | refine s_lit0 (h := ?_) | refine s_ixa (h := ?_) | refine s_insert (h := ?_) | (refine s_sadd rfl ?_ (h := ?_); (focus (first | omega | (simp only [List.length_append, List.length_map, List.length_cons, List.length_nil, List.length_take, List.length_drop]; omega)))) | (refine p_sadd rfl ?_ (h := ?_); (focus (first | omega | (simp only [List.length_append, List.length_map, List.length_cons, List.length_nil, List.length_take, List.length_drop]; omega)))) | fail "")
                      all_goals first
                        | (refine ⟨(), ?_, ?_⟩; rotate_left 1; (exact lessA_); (focus (trivial)))
                        | (exfalso; omega)
                        | skip
                    rintro ⟨⟩ -
                    refine r_drawW [(18, 5)] (h := ?_)
                    (repeat' first | refine p_ih (hq := fun N => q_len_roxN (n := 1) rfl rfl rfl rfl (by simp)) (h := ?_) | refine p_ih (hq := fun N => q_index_rox (n := 0) rfl rfl rfl rfl (by omega) (by simp) rfl rfl) (h := ?_) | refine p_ih (hq := fun N => q_load_one rfl rfl rfl (reads_rox rfl (by simp) rfl (eAt_lastP (L := []))) rfl) (h := ?_) | refine p_lookF hlk (h := ?_) | (refine p_app0R (r := [(bAt MM (P.getD 0 default))].map encB) rfl ?_ ?_ ?_ (h := ?_); (focus (exact len_one rfl)); (focus (first | (simp; done) | ((conv => lhs; rhs; whnf); simp; done))); (focus (first | (simp; done) | omega))) | refine p_storex (l := ([] : List DPiece).map encPiece ++ [[.lit (.int .i64 (P.getD 0 default)), .lit (.slice none 0 0)]]) (i := 0) (j := 1) (vs := [.own 21]) (r := ([] : List DPiece).map encPiece ++ [[.lit (.int .i64 (P.getD 0 default)), .own 21]]) (by simp) (by rfl) (h := ?_) | (refine goI_ ?_; ((repeat' first | exact True.intro | refine Two.mk ?_ ?_); all_goals intros)) | refine s_i (h := ?_) | refine s_i (hq := q_index_ro rfl rfl rfl (by first | exact lit0 | exact lit1 | exact lit2 | exact lit3 | rfl) (by simp only [List.length_cons, List.length_nil]; omega) rfl rfl rfl rfl) (h := ?_) | refine p_i (h := ?_) | refine p_ih (h := ?_) | refine s_lit (h := ?_) | refine p_lit (h := ?_) | refine p_lit0 (h := ?_) | refine s_lit0 (h := ?_) | refine s_ixa (h := ?_) | refine s_insert (h := ?_) | (refine s_sadd rfl ?_ (h := ?_); (focus (first | omega | (simp only [List.length_append, List.length_map, List.length_cons, List.length_nil, List.length_take, List.length_drop]; omega)))) | (refine p_sadd rfl ?_ (h := ?_); (focus (first | omega | (simp only [List.length_append, List.length_map, List.length_cons, List.length_nil, List.length_take, List.length_drop]; omega)))) | fail "")
                    all_goals (refine ⟨(0 + 1, some ([], one (P.getD 0 default, bAt MM (P.getD 0 default)))), (by dsimp only; omega), ⟨hkn, hi, (by unfold prOk one; dsimp only; refine ⟨by omega, by simp, by simp, by simp, by simp⟩)⟩, ?_⟩)
                    dsimp only [prS, one]
                    exact less_renx [(0, 0), (1, 1), (2, 2), (5, 3), (21, 4)] rfl (by ((repeat' (first | exact True.intro | exact ex_sv rfl rfl | exact ex_int rfl (by first | rfl | omega | (dsimp only; omega)) | refine And.intro ?_ ?_)); done)) (And.intro ⟨rfl, _, rfl, .inl rfl⟩ (And.intro ⟨rfl, _, rfl, .inl rfl⟩ (And.intro ⟨rfl, _, rfl, .inl rfl⟩ (And.intro ⟨rfl, _, rfl, svX_snoc (l := []) (by simp) rfl⟩ (And.intro ⟨rfl, _, rfl, .inl rfl⟩ True.intro))))) rfl
                  · have hl0 : P = [] := List.eq_nil_of_length_eq_zero (by omega)
                    subst hl0
                    have hPL : PL = [] := by rw [← hsame]; rfl
                    subst hPL
                    rw [if_neg (by simp)]
                    first | rw [if_pos rfl] | rw [if_neg Bool.false_ne_true]
                    refine r_less (less_xrow (id := 3) rfl (fun i j hi => absurd hi (Nat.not_lt_zero _))) ?_
                    (repeat' first | (refine go_ ?_; ((repeat' first | exact True.intro | refine Two.mk ?_ ?_); all_goals intros)) | fail "")
                    all_goals first
                      | (exact endwA_)
                      | (exfalso; omega)
                      | skip
                | some y =>
                  obtain ⟨L, q⟩ := y
                  unfold prOk at ho
                  obtain ⟨k1, k2, k3, k4, k5⟩ := ho
                  dsimp only [prS] at *
                  by_cases hkn : k < P.length
                  · have hx := hPr _ (getD_mem hkn)
                    have hx1 := hPr _ (getD_mem (show k - 1 < P.length by omega))
                    rw [drop_cons hkn] at hi
                    have hlk := look_bAt (P.getD k default) MM
                    have hi : mgAll (mgAdd (some (L, q)) (one (P.getD k default, bAt MM (P.getD k default)))) ((P.drop (k + 1)).map (fun z => one (z, bAt MM z))) = mgAll none (P.map (fun z => one (z, bAt MM z))) := hi
                    by_cases ht : P.getD (k - 1) default = P.getD k default - 1
                    · rw [mgAdd_t (show q.Off + q.Data.length = P.getD k default by omega)] at hi
                      (repeat' first | (refine goU_ 37 ?_; ((repeat' first | exact True.intro | refine Two.mk ?_ ?_); all_goals intros)) | fail "")
                      refine r_cut (fun _ : Unit => ⟨[(3, .lit (.bool true)), (4, .ptr 0 0 0 0), (8, .ptr 1 0 0 0), (9, .lit (.int .i64 0)), (11, .lit (.int .i64 (off + data.length))), (12, .own 2), (19, .ro (P.map encI)), (21, .own 3), (22, .lit (.int .i64 k)), (23, .lit (.int .i64 (P.getD k default))), (129, .ro (P.map encI)), (130, .lit (.int .i64 P.length)), (131, .lit (.int .i64 k))], [(0, some (.box 24 (encGather g))), (1, some (.box 24 [.lit (.int .i64 0), .lit (.slice none 0 0), .lit (.int .i64 0), .lit (.int .i64 0)])), (2, some (.fmap (some .i64) (MM.map kvB))), (3, some (.rox 34 2 (L.map encPiece ++ [[.lit (.int .i64 q.Off), .own 4]]))), (4, some (.row 5 1 (q.Data.map encB)))], 5, Try.f5.ntmps⟩) (fun _ => True) ?_ ?_
                      · (repeat' first | (refine go_ ?_; ((repeat' first | exact True.intro | refine Two.mk ?_ ?_); all_goals intros)) | fail "")
                        refine ⟨(), trivial, ?_⟩
                        exact less_renx [(0, 0), (1, 1), (2, 2), (3, 3), (4, 4)] rfl (by ((repeat' (first | exact True.intro | exact ex_sv rfl rfl | exact ex_int rfl (by first | rfl | omega | (dsimp only; omega)) | refine And.intro ?_ ?_)); done)) (And.intro ⟨rfl, _, rfl, .inl rfl⟩ (And.intro ⟨rfl, _, rfl, .inl rfl⟩ (And.intro ⟨rfl, _, rfl, .inl rfl⟩ (And.intro ⟨rfl, _, rfl, svX_snoc (l := L.map encPiece) (map_pure L) rfl⟩ (And.intro ⟨rfl, _, rfl, .inl rfl⟩ True.intro))))) rfl
                      rintro ⟨⟩ -
                      refine r_drawW [(15, 4), (18, 3)] (h := ?_)
                      (repeat' first | refine p_ih (hq := fun N => q_len_roxN (n := L.length + 1) rfl rfl rfl rfl (by simp)) (h := ?_) | refine p_ih (hq := fun N => q_index_rox (n := L.length) rfl rfl rfl rfl (by omega) (by simp) rfl rfl) (h := ?_) | refine p_ih (hq := fun N => q_load_one rfl rfl rfl (reads_rox rfl (by simp) rfl eAt_lastP) rfl) (h := ?_) | refine p_lookF hlk (h := ?_) | (refine s_app (r := (q.Data ++ [(bAt MM (P.getD k default))]).map encB) ?_ ?_ ?_ ?_ (h := ?_); (focus (first | with_reducible rfl | with_reducible exact List.nil_append _ | with_reducible exact (List.map_append ..).symm | (rw [take_snoc (by assumption), List.map_append]; rfl) | (rw [List.map_append]; rfl) | (simp; done))); (focus (first | exact len_none | exact len_one rfl | exact len_two rfl rfl | exact len_enc (fun _ => rfl))); (focus ((conv => lhs; rhs; whnf); simp only [List.length_map, List.length_append, List.length_cons, List.length_nil, List.length_take]; omega)); (focus (simp only [List.length_map, List.length_append, List.length_cons, List.length_nil, List.length_take]; omega))) | (refine s_app0R (r := (q.Data ++ [(bAt MM (P.getD k default))]).map encB) ?_ ?_ ?_ ?_ (h := ?_); (focus (first | with_reducible rfl | with_reducible exact List.nil_append _ | with_reducible exact (List.map_append ..).symm | (rw [take_snoc (by assumption), List.map_append]; rfl) | (rw [List.map_append]; rfl) | (simp; done))); (focus (first | exact len_none | exact len_one rfl | exact len_two rfl rfl | exact len_enc (fun _ => rfl))); (focus ((conv => lhs; rhs; whnf); simp only [List.length_map, List.length_append, List.length_cons, List.length_nil, List.length_take]; omega)); (focus (simp only [List.length_map, List.length_append, List.length_cons, List.length_nil, List.length_take]; omega))) | (refine p_app (r := (q.Data ++ [(bAt MM (P.getD k default))]).map encB) ?_ ?_ ?_ ?_ (h := ?_); (focus (first | with_reducible rfl | with_reducible exact List.nil_append _ | with_reducible exact (List.map_append ..).symm | (rw [take_snoc (by assumption), List.map_append]; rfl) | (rw [List.map_append]; rfl) | (simp; done))); (focus (first | exact len_none | exact len_one rfl | exact len_two rfl rfl | exact len_enc (fun _ => rfl))); (focus ((conv => lhs; rhs; whnf); simp only [List.length_map, List.length_append, List.length_cons, List.length_nil, List.length_take]; omega)); (focus (simp only [List.length_map, List.length_append, List.length_cons, List.length_nil, List.length_take]; omega))) | (refine p_app0R (r := (q.Data ++ [(bAt MM (P.getD k default))]).map encB) ?_ ?_ ?_ ?_ (h := ?_); (focus (first | with_reducible rfl | with_reducible exact List.nil_append _ | with_reducible exact (List.map_append ..).symm | (rw [take_snoc (by assumption), List.map_append]; rfl) | (rw [List.map_append]; rfl) | (simp; done))); (focus (first | exact len_none | exact len_one rfl | exact len_two rfl rfl | exact len_enc (fun _ => rfl))); (focus ((conv => lhs; rhs; whnf); simp only [List.length_map, List.length_append, List.length_cons, List.length_nil, List.length_take]; omega)); (focus (simp only [List.length_map, List.length_append, List.length_cons, List.length_nil, List.length_take]; omega))) | refine p_storex (l := L.map encPiece ++ [[.lit (.int .i64 q.Off), .own 4]]) (i := L.length) (j := 1) (vs := [.own 20]) (r := L.map encPiece ++ [[.lit (.int .i64 q.Off), .own 20]]) (by simp) (by rw [eAt_lastP, set_lastP]; rfl) (h := ?_) | (refine goI_ ?_; ((repeat' first | exact True.intro | refine Two.mk ?_ ?_); all_goals intros)) | refine s_i (h := ?_) | refine s_i (hq := q_index_ro rfl rfl rfl (by first | exact lit0 | exact lit1 | exact lit2 | exact lit3 | rfl) (by simp only [List.length_cons, List.length_nil]; omega) rfl rfl rfl rfl) (h := ?_) | refine p_i (h := ?_) | refine p_ih (h := ?_) | refine s_lit (h := ?_) | refine p_lit (h := ?_) | refine p_lit0 (h := ?_) | refine s_lit0 (h := ?_) | refine s_ixa (h := ?_) | refine s_insert (h := ?_) | (refine s_sadd rfl ?_ (h := ?_); (focus (first | omega | (simp only [List.length_append, List.length_map, List.length_cons, List.length_nil, List.length_take, List.length_drop]; omega)))) | (refine p_sadd rfl ?_ (h := ?_); (focus (first | omega | (simp only [List.length_append, List.length_map, List.length_cons, List.length_nil, List.length_take, List.length_drop]; omega)))) | fail "")
                      all_goals (refine ⟨(k + 1, some (L, ⟨q.Off, q.Data ++ [bAt MM (P.getD k default)]⟩)), (by dsimp only; omega), ⟨hkn, hi, (by unfold prOk; dsimp only; rw [List.length_append, Nat.add_sub_cancel]; refine ⟨by omega, by omega, (by simp only [List.length_cons, List.length_nil]; omega), (by simp only [List.length_cons, List.length_nil]; omega), (by simp)⟩)⟩, ?_⟩)
                      dsimp only [prS]
                      exact less_renx [(0, 0), (1, 1), (2, 2), (3, 3), (20, 4)] rfl (by ((repeat' (first | exact True.intro | exact ex_sv rfl rfl | exact ex_int rfl (by first | rfl | omega | (dsimp only; omega)) | refine And.intro ?_ ?_)); done)) (And.intro ⟨rfl, _, rfl, .inl rfl⟩ (And.intro ⟨rfl, _, rfl, .inl rfl⟩ (And.intro ⟨rfl, _, rfl, .inl rfl⟩ (And.intro ⟨rfl, _, rfl, svX_snoc (l := L.map encPiece) (map_pure L) rfl⟩ (And.intro ⟨rfl, _, rfl, .inl rfl⟩ True.intro))))) rfl
                    · rw [mgAdd_f (show ¬ q.Off + q.Data.length = P.getD k default by omega)] at hi
                      (repeat' first | (refine goU_ 37 ?_; ((repeat' first | exact True.intro | refine Two.mk ?_ ?_); all_goals intros)) | fail "")
                      refine r_cut (fun _ : Unit => ⟨[(3, .lit (.bool true)), (4, .ptr 0 0 0 0), (8, .ptr 1 0 0 0), (9, .lit (.int .i64 0)), (11, .lit (.int .i64 (off + data.length))), (12, .own 2), (19, .ro (P.map encI)), (21, .own 6), (22, .lit (.int .i64 k)), (23, .lit (.int .i64 (P.getD k default))), (129, .ro (P.map encI)), (130, .lit (.int .i64 P.length)), (131, .lit (.int .i64 k))], [(0, some (.box 24 (encGather g))), (1, some (.box 24 [.lit (.int .i64 0), .lit (.slice none 0 0), .lit (.int .i64 0), .lit (.int .i64 0)])), (2, some (.fmap (some .i64) (MM.map kvB))), (6, some (.rox 34 2 ((L.map encPiece ++ [[.lit (.int .i64 q.Off), .own 4]]) ++ [[.lit (.int .i64 (P.getD k default)), .lit (.slice none 0 0)]]))), (4, some (.row 5 1 (q.Data.map encB)))], 7, Try.f5.ntmps⟩) (fun _ => True) ?_ ?_
                      · (repeat' first | refine s_litx (h := ?_) | (refine s_appx (r := (L.map encPiece ++ [[.lit (.int .i64 q.Off), .own 4]]) ++ [[.lit (.int .i64 (P.getD k default)), .lit (.slice none 0 0)]]) rfl ?_ ?_ (h := ?_); (focus ((conv => lhs; rhs; whnf); simp only [List.length_map, List.length_append, List.length_cons, List.length_nil]; omega)); (focus (simp only [List.length_map, List.length_append, List.length_cons, List.length_nil]; omega))) | (refine goI_ ?_; ((repeat' first | exact True.intro | refine Two.mk ?_ ?_); all_goals intros)) | refine s_i (h := ?_) | refine s_i (hq := q_index_ro rfl rfl rfl (by first | exact lit0 | exact lit1 | exact lit2 | exact lit3 | rfl) (by simp only [List.length_cons, List.length_nil]; omega) rfl rfl rfl rfl) (h := ?_) | refine p_i (h := ?_) | refine p_ih (h := ?_) | refine s_lit (h := ?_) | refine p_lit (h := ?_) | refine p_lit0 (h := ?_) | refine s_lit0 (h := ?_) | refine s_ixa (h := ?_) | refine s_insert (h := ?_) | (refine s_sadd rfl ?_ (h := ?_); (focus (first | omega | (simp only [List.length_append, List.length_map, List.length_cons, List.length_nil, List.length_take, List.length_drop]; omega)))) | (refine p_sadd rfl ?_ (h := ?_); (focus (first | omega | (simp only [List.length_append, List.length_map, List.length_cons, List.length_nil, List.length_take, List.length_drop]; omega)))) | fail "")
                        all_goals try (exfalso; omega)
                        refine ⟨(), trivial, ?_⟩
                        exact less_renx [(0, 0), (1, 1), (2, 2), (6, 6), (4, 4)] rfl (by ((repeat' (first | exact True.intro | exact ex_sv rfl rfl | exact ex_int rfl (by first | rfl | omega | (dsimp only; omega)) | refine And.intro ?_ ?_)); done)) (And.intro ⟨rfl, _, rfl, .inl rfl⟩ (And.intro ⟨rfl, _, rfl, .inl rfl⟩ (And.intro ⟨rfl, _, rfl, .inl rfl⟩ (And.intro ⟨rfl, _, rfl, svX_snoc2 L rfl rfl⟩ (And.intro ⟨rfl, _, rfl, .inl rfl⟩ True.intro))))) rfl
                      rintro ⟨⟩ -
                      refine r_drawW [(18, 6)] (h := ?_)
                      (repeat' first | refine p_ih (hq := fun N => q_len_roxN (n := L.length + 2) rfl rfl rfl rfl (by simp)) (h := ?_) | refine p_ih (hq := fun N => q_index_rox (n := L.length + 1) rfl rfl rfl rfl (by omega) (by simp) rfl rfl) (h := ?_) | refine p_ih (hq := fun N => q_load_one rfl rfl rfl (reads_rox rfl (by simp) rfl (eAt_snocN (by simp))) rfl) (h := ?_) | refine p_lookF hlk (h := ?_) | (refine p_app0R (r := [(bAt MM (P.getD k default))].map encB) rfl ?_ ?_ ?_ (h := ?_); (focus (exact len_one rfl)); (focus (first | (simp; done) | ((conv => lhs; rhs; whnf); simp; done))); (focus (first | (simp; done) | omega))) | refine p_storex (l := (L.map encPiece ++ [[.lit (.int .i64 q.Off), .own 4]]) ++ [[.lit (.int .i64 (P.getD k default)), .lit (.slice none 0 0)]]) (i := L.length + 1) (j := 1) (vs := [.own 22]) (r := (L.map encPiece ++ [[.lit (.int .i64 q.Off), .own 4]]) ++ [[.lit (.int .i64 (P.getD k default)), .own 22]]) (by simp) (by rw [eAt_snocN (by simp), set_snocN (by simp)]; rfl) (h := ?_) | (refine goI_ ?_; ((repeat' first | exact True.intro | refine Two.mk ?_ ?_); all_goals intros)) | refine s_i (h := ?_) | refine s_i (hq := q_index_ro rfl rfl rfl (by first | exact lit0 | exact lit1 | exact lit2 | exact lit3 | rfl) (by simp only [List.length_cons, List.length_nil]; omega) rfl rfl rfl rfl) (h := ?_) | refine p_i (h := ?_) | refine p_ih (h := ?_) | refine s_lit (h := ?_) | refine p_lit (h := ?_) | refine p_lit0 (h := ?_) | refine s_lit0 (h := ?_) | refine s_ixa (h := ?_) | refine s_insert (h := ?_) | (refine s_sadd rfl ?_ (h := ?_); (focus (first | omega | (simp only [List.length_append, List.length_map, List.length_cons, List.length_nil, List.length_take, List.length_drop]; omega)))) | (refine p_sadd rfl ?_ (h := ?_); (focus (first | omega | (simp only [List.length_append, List.length_map, List.length_cons, List.length_nil, List.length_take, List.length_drop]; omega)))) | fail "")
                      all_goals (refine ⟨(k + 1, some (L ++ [q], one (P.getD k default, bAt MM (P.getD k default)))), (by dsimp only; omega), ⟨hkn, hi, (by unfold prOk one; dsimp only; rw [List.length_append, Nat.add_sub_cancel]; refine ⟨by omega, by simp; omega, by simp, by simp, by simp⟩)⟩, ?_⟩)
                      dsimp only [prS, one]
                      refine (less_fro (id := 4) rfl).trans ((less_xone (id := 6) (m := 4) (A := L.map encPiece) (a := .lit (.int .i64 q.Off)) (B := [[.lit (.int .i64 (P.getD k default)), .own 22]]) (l' := (L ++ [q]).map encPiece ++ [[.lit (.int .i64 (P.getD k default)), .own 22]]) rfl rfl (by rw [List.append_assoc]; rfl) (by rw [List.map_append, List.append_assoc]; rfl)).trans ?_)
                      exact less_renx [(0, 0), (1, 1), (2, 2), (6, 3), (22, 4)] rfl (by ((repeat' (first | exact True.intro | exact ex_sv rfl rfl | exact ex_int rfl (by first | rfl | omega | (dsimp only; omega)) | refine And.intro ?_ ?_)); done)) (And.intro ⟨rfl, _, rfl, .inl rfl⟩ (And.intro ⟨rfl, _, rfl, .inl rfl⟩ (And.intro ⟨rfl, _, rfl, .inl rfl⟩ (And.intro ⟨rfl, _, rfl, svX_snoc (l := (L ++ [q]).map encPiece) (map_pure _) rfl⟩ (And.intro ⟨rfl, _, rfl, .inl rfl⟩ True.intro))))) rfl
                  · have hkl : k = P.length := by omega
                    subst hkl
                    rw [List.drop_length] at hi
                    have hr : PL = L ++ [q] := by rw [← hsame]; unfold mgL; show mgOut (mgAll none (P.map (fun z => one (z, bAt MM z)))) = _; rw [← hi]; rfl
                    subst hr
                    refine r_less ((less_fro (id := 4) rfl).trans ((less_xone (id := 3) (m := 4) (A := L.map encPiece) (a := .lit (.int .i64 q.Off)) (B := []) (l' := (L ++ [q]).map encPiece) rfl rfl rfl (by rw [List.map_append]; rfl)).trans (less_xall (id := 3) rfl encPiece_all))) ?_
                    generalize L ++ [q] = PL at *
                    by_cases h5 : 4 < PL.length
                    · rw [if_pos h5]
                      (repeat' first | (refine go_ ?_; ((repeat' first | exact True.intro | refine Two.mk ?_ ?_); all_goals intros)) | fail "")
                      all_goals first
                        | (exact endwA_)
                        | (exfalso; omega)
                        | skip
                    · rw [if_neg h5]
                      first | rw [if_pos rfl] | rw [if_neg Bool.false_ne_true]
                      (repeat' first | (refine go_ ?_; ((repeat' first | exact True.intro | refine Two.mk ?_ ?_); all_goals intros)) | fail "")
                      all_goals first
                        | (exact endwA_)
                        | (exfalso; omega)
                        | skip
              · intro i hi
                have hi' : i < L.length := by simpa using hi
                have hp2 : ((pl ++ [L[i].1]) ++ ks (L.eraseIdx i)).Perm (ks MM) := by
                  refine List.Perm.trans ?_ hpm
                  rw [List.append_assoc]
                  refine List.Perm.append_left pl ?_
                  exact perm_erase L i hi'
                have hll : (L.eraseIdx i).length < L.length := by rw [List.length_eraseIdx, if_pos hi']; omega
                rw [show (L.map kvB)[i] = kvB L[i] from List.getElem_map .., ← erase_map]
                generalize L.eraseIdx i = L2 at *
                generalize L[i] = y at *
                obtain ⟨yk, yc⟩ := y
                dsimp only [kvB] at *
                clear hsame hkr hpm
                (repeat' first | (refine s_app (r := (pl ++ [yk]).map encI) ?_ ?_ ?_ ?_ (h := ?_); (focus (first | with_reducible rfl | with_reducible exact List.nil_append _ | with_reducible exact (List.map_append ..).symm | (rw [take_snoc (by assumption), List.map_append]; rfl) | (rw [List.map_append]; rfl) | (simp; done))); (focus (first | exact len_none | exact len_one rfl | exact len_two rfl rfl | exact len_enc (fun _ => rfl))); (focus ((conv => lhs; rhs; whnf); simp only [List.length_map, List.length_append, List.length_cons, List.length_nil, List.length_take]; omega)); (focus (simp only [List.length_map, List.length_append, List.length_cons, List.length_nil, List.length_take]; omega))) | (refine s_app0R (r := (pl ++ [yk]).map encI) ?_ ?_ ?_ ?_ (h := ?_); (focus (first | with_reducible rfl | with_reducible exact List.nil_append _ | with_reducible exact (List.map_append ..).symm | (rw [take_snoc (by assumption), List.map_append]; rfl) | (rw [List.map_append]; rfl) | (simp; done))); (focus (first | exact len_none | exact len_one rfl | exact len_two rfl rfl | exact len_enc (fun _ => rfl))); (focus ((conv => lhs; rhs; whnf); simp only [List.length_map, List.length_append, List.length_cons, List.length_nil, List.length_take]; omega)); (focus (simp only [List.length_map, List.length_append, List.length_cons, List.length_nil, List.length_take]; omega))) | (refine p_app (r := (pl ++ [yk]).map encI) ?_ ?_ ?_ ?_ (h := ?_); (focus (first | with_reducible rfl | with_reducible exact List.nil_append _ | with_reducible exact (List.map_append ..).symm | (rw [take_snoc (by assumption), List.map_append]; rfl) | (rw [List.map_append]; rfl) | (simp; done))); (focus (first | exact len_none | exact len_one rfl | exact len_two rfl rfl | exact len_enc (fun _ => rfl))); (focus ((conv => lhs; rhs; whnf); simp only [List.length_map, List.length_append, List.length_cons, List.length_nil, List.length_take]; omega)); (focus (simp only [List.length_map, List.length_append, List.length_cons, List.length_nil, List.length_take]; omega))) | (refine p_app0R (r := (pl ++ [yk]).map encI) ?_ ?_ ?_ ?_ (h := ?_); (focus (first | with_reducible rfl | with_reducible exact List.nil_append _ | with_reducible exact (List.map_append ..).symm | (rw [take_snoc (by assumption), List.map_append]; rfl) | (rw [List.map_append]; rfl) | (simp; done))); (focus (first | exact len_none | exact len_one rfl | exact len_two rfl rfl | exact len_enc (fun _ => rfl))); (focus ((conv => lhs; rhs; whnf); simp only [List.length_map, List.length_append, List.length_cons, List.length_nil, List.length_take]; omega)); (focus (simp only [List.length_map, List.length_append, List.length_cons, List.length_nil, List.length_take]; omega))) | (refine go_ ?_; ((repeat' first | exact True.intro | refine Two.mk ?_ ?_); all_goals intros)) | fail "")
                all_goals first
                  | (refine ⟨(L2, pl ++ [yk], some (kvB (yk, yc))), ?_, ?_, ?_⟩; rotate_left 2; (exact lessA_); (focus (dsimp only; exact hll)); (focus (exact hp2)))
                  | (exfalso; omega)
                  | skip
  · rw [if_pos h0]
    generalize gatherFlt g = e at *
    refine fn_of_run (by kernel_rfl) Try.func5 rfl (by kernel_rfl) ?_
    (repeat' first | (refine s_call (h1) (h := ?_)) | (refine p_call (h1) (h := ?_)) | (refine go_ ?_; ((repeat' first | exact True.intro | refine Two.mk ?_ ?_); all_goals intros)) | fail "")
    all_goals first
      | (exact endwA_)
      | (exfalso; omega)
      | skip
end Go.Proofs.Ytendheafcbickaa
