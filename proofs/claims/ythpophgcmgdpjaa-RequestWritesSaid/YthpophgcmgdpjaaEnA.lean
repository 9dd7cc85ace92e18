/-
  fields.Encode: what it answers. No condition.
-/
import Derived.Test.YthpophgcmgdpjaaGo
import Derived.Test.YthpophgcmgdpjaaEnW
set_option linter.unusedVariables false
set_option linter.unusedSimpArgs false
set_option linter.unusedVariables false
namespace Go.Proofs.Ythpophgcmgdpjaa
set_option maxRecDepth 100000
attribute [local irreducible] Run RunL QStep GStep Fn Less PL FnM

def encEn (r : DTable × List UInt8 × List UInt8 × Int) : V := .tup [.agg (encTable r.1), .ro (r.2.1.map encB), .ro (r.2.2.1.map encB), .lit (.int .i64 r.2.2.2)]
/-- the rows' numbers as they stand behind k fields -/
structure EnX where
  k : Nat
  x : EnS
  m : List Int
structure EnXok (ahead : Bool) (t : DTable) (l : List DField) (y : EnX) : Prop where
  k : y.k ≤ l.length
  x : y.x = enAt ahead t l y.k
  m : y.m = padR y.x.rs l.length
set_option maxHeartbeats 16000000 in
theorem encodeF_fn (t : DTable) (l : List DField) (ahead : Bool) (hw : wfTable t) (hl : ∀ y, y ∈ l → wfField y) (hll : l.length * 32 ≤ 140737488355328) : Fn Try.prog 19 [.agg (encTable t), .ro (l.map encField), .lit (.bool ahead)] (encEn (enR t l ahead)) := by
  have h1 := tabCheck_fn t hw
  have h2 := fldsCheck_fn l hl hll
  have h3 := resize_fn t t.Room hw
  unfold enR encEn
  rcases tabFlt_cases t with ⟨h0, hok⟩ | ⟨h0, hbad⟩
  · rw [h0] at h1
    rw [if_neg (by omega)]
    by_cases hf0 : fldsFlt l = 0
    · obtain ⟨hl8, hfo⟩ := fldsFlt_ok hf0
      rw [hf0] at h2
      rw [if_neg (by omega)]
      rw [resize_self hok] at h3
      dsimp only at h3 ⊢
      have hat := fun k hk => enAt_ok (a := ahead) hok hfo k hk
      have hrep : List.replicate l.length [V.lit (.int .i64 0)] = (padR [] l.length).map encI := by rw [padR_nil, List.map_replicate]; rfl
      generalize hE : enAt ahead t l l.length = E
      refine fn_of_run (by kernel_rfl) Try.func19 rfl (by kernel_rfl) ?_
      (repeat' first | (refine s_call (h1) (h := ?_)) | (refine p_call (h1) (h := ?_)) | (refine s_call (h2) (h := ?_)) | (refine p_call (h2) (h := ?_)) | (refine s_call (h3) (h := ?_)) | (refine p_call (h3) (h := ?_)) | (refine s_make (l.length) ?_ ?_ ?_ ?_ (h := ?_); (focus (first | rfl | omega)); (focus (first | rfl | omega)); (focus (first | exact Nat.le_of_ble_eq_true rfl | ((conv => lhs; lhs; whnf); simp only [Nat.one_mul]; omega))); (focus omega)) | (refine go_ ?_; ((repeat' first | exact True.intro | refine Two.mk ?_ ?_); all_goals intros)) | fail "")
      refine r_for (fun y : EnX => ⟨[(1, .ro (l.map encField)), (2, .lit (.bool ahead)), (3, .ptr 0 0 0 0), (6, .ptr 1 0 0 0), (12, .ptr 2 0 0 0), (13, .own 3), (14, .lit (.int .i64 y.x.need)), (53, .ro (l.map encField)), (54, .lit (.int .i64 l.length)), (55, .lit (.int .i64 y.k))], [(0, some (.box 24 (encTable y.x.t))), (1, some (.box 24 [.lit (.int .i64 0), .lit (.int .i64 0), .lit (.slice none 0 0)])), (2, some (.box 123 [.own 4])), (3, some (.row 3 1 (y.m.map encI))), (4, some (.row 5 1 (y.x.tell.map encB)))], 5, Try.f19.ntmps⟩)
        (EnXok ahead t l) (fun y => l.length - y.k) ⟨0, ⟨t, [], 0, []⟩, padR [] l.length⟩ ⟨Nat.zero_le _, rfl, rfl⟩ ((less_box1 (id := 2) (T := 123) 5 1 rfl rfl rfl rfl).trans (by rw [hrep]; exact less_to)) ?_
      clear h1 h2 h3 hrep
      rintro ⟨k, x, m⟩ ⟨hk, hx, hm⟩
      dsimp only at hk hx hm ⊢
      have hxo : EnOk k x := by rw [hx]; exact hat k hk
      by_cases hkn : k < l.length
      · have hsn := enAt_snoc (ahead := ahead) (t := t) hkn
        rw [← hx] at hsn
        have hfm := getD_mem hkn
        have hfo2 := hfo _ hfm
        have hfw := hl _ hfm
        have gk := knownF_fn (l.getD k default)
        obtain ⟨o1, o2, o3, o4, o5⟩ := hxo
        have hml : m.length = l.length := by rw [hm]; exact padR_len (by omega)
        have hm1 : m.set k (-1) = padR (x.rs ++ [-1]) l.length := by rw [hm, ← o2]; exact padR_set (by omega) (-1)
        have hm1l : (padR (x.rs ++ [-1]) l.length).length = l.length := padR_len (by rw [List.length_append, List.length_singleton]; omega)
        have hm2 : ∀ v, (padR (x.rs ++ [-1]) l.length).set k v = padR (x.rs ++ [v]) l.length := fun v => by rw [← o2]; exact padR_set2 _ _
        have hmg : ∀ v, (padR (x.rs ++ [v]) l.length).getD k default = v := fun v => by rw [← o2]; exact padR_get v
        clear hat hx hm hE hfo
        obtain ⟨⟨room, put, rows⟩, rs, need, tell⟩ := x
        cases hkS : knS (l.getD k default) with
        | some i =>
          rw [knR_s hkS] at gk
          rw [enStep_k hkS] at hsn
          unfold encKn at gk
          dsimp only at *
          generalize hM1 : padR (rs ++ [-1]) l.length = M1 at *
          (repeat' first | (refine s_call (gk) (h := ?_)) | (refine p_call (gk) (h := ?_)) | (refine s_set (r := M1.map encI) ?_ ?_ (h := ?_); (focus (first | omega | (simp only [List.length_map, List.length_append, List.length_take, List.length_drop, List.length_replicate]; omega))); (focus ((rw [← hm1]; exact set_int m k (by omega) _)))) | (refine p_set (r := M1.map encI) ?_ ?_ (h := ?_); (focus (first | omega | (simp only [List.length_map, List.length_append, List.length_take, List.length_drop, List.length_replicate]; omega))); (focus ((rw [← hm1]; exact set_int m k (by omega) _)))) | (refine go_ ?_; ((repeat' first | exact True.intro | refine Two.mk ?_ ?_); all_goals intros)) | fail "")
          all_goals first
            | (refine ⟨EnX.mk (k + 1) ⟨⟨room, put, rows⟩, rs ++ [-1], need, tell⟩ M1, ?_, ?_, ?_⟩; rotate_left 2; (exact lessA_); (focus (dsimp only; omega)); (focus (exact ⟨hkn, hsn.symm, hM1.symm⟩)))
            | skip
        | none =>
          rw [knR_n hkS] at gk
          unfold encKn at gk
          generalize atN (knN (l.getD k default)) = at0 at *
          generalize (knN (l.getD k default)).isSome = there at *
          have gf := find_fn ⟨room, put, rows⟩ (l.getD k default) (tabOk_wf o1) hfw
          have t0 := tabFlt_t o1
          have hroom := o1.1
          cases hfd : fdS ⟨room, put, rows⟩ (l.getD k default) with
          | some i =>
            have hil := lastIx_lt hfd
            rw [find_s t0 hfd] at gf
            rw [enStep_f hkS hfd] at hsn
            unfold encFind at gf
            dsimp only [encTable] at *
            generalize hv : put - (rows.length : Int) + i = v at *
            have hm2v := hm2 v
            have hmgv := hmg v
            generalize hM1 : padR (rs ++ [-1]) l.length = M1 at *
            generalize hM2 : padR (rs ++ [v]) l.length = M2 at *
            have hM2l : M2.length = l.length := by rw [← hm2v, List.length_set, hm1l]
            clear hm2 hmg
            (repeat' first | (refine s_call (gk) (h := ?_)) | (refine p_call (gk) (h := ?_)) | (refine s_call (gf) (h := ?_)) | (refine p_call (gf) (h := ?_)) | (refine s_set (r := M1.map encI) ?_ ?_ (h := ?_); (focus (first | omega | (simp only [List.length_map, List.length_append, List.length_take, List.length_drop, List.length_replicate]; omega))); (focus ((rw [← hm1]; exact set_int m k (by omega) _)))) | (refine p_set (r := M1.map encI) ?_ ?_ (h := ?_); (focus (first | omega | (simp only [List.length_map, List.length_append, List.length_take, List.length_drop, List.length_replicate]; omega))); (focus ((rw [← hm1]; exact set_int m k (by omega) _)))) | (refine s_set (r := M2.map encI) ?_ ?_ (h := ?_); (focus (first | omega | (simp only [List.length_map, List.length_append, List.length_take, List.length_drop, List.length_replicate]; omega))); (focus ((rw [← hm2v]; exact set_int M1 k (by omega) _)))) | (refine p_set (r := M2.map encI) ?_ ?_ (h := ?_); (focus (first | omega | (simp only [List.length_map, List.length_append, List.length_take, List.length_drop, List.length_replicate]; omega))); (focus ((rw [← hm2v]; exact set_int M1 k (by omega) _)))) | (refine go_ ?_; ((repeat' first | exact True.intro | refine Two.mk ?_ ?_); all_goals intros)) | fail "")
            all_goals first
              | (rw [hmgv]; (refine ⟨EnX.mk (k + 1) ⟨⟨room, put, rows⟩, rs ++ [v], max need (v + 1), tell⟩ M2, ?_, ?_, ?_⟩; rotate_left 2; (exact lessA_); (focus (dsimp only; omega)); (focus (exact ⟨hkn, hsn.symm, hM2.symm⟩))))
              | skip
          | none =>
            obtain ⟨n, e, hfe, he⟩ := find_no t0 hfd
            rw [hfe] at gf
            unfold encFind at gf
            have gu := used_fn ⟨room, put, rows⟩ (tabOk_wf o1)
            have hsum := o1.2.2
            have hput := o1.1
            dsimp only at hsum hput gu
            rw [wSum_all (show fSum rows ≤ 9223372036854775807 by omega)] at gu
            have gs := size_fn (l.getD k default) hfw
            have hnl := hfo2.2.1
            have hvl := hfo2.2.2
            have hfl : fLen (l.getD k default) = (l.getD k default).Name.length + (l.getD k default).Value.length + 32 := rfl
            by_cases ht : enTell ahead ⟨room, put, rows⟩ (l.getD k default)
            · rw [enStep_t hkS hfd ht] at hsn
              obtain ⟨⟨room2, put2, rows2⟩, ei, g1, g2⟩ := ins_told o1 hfo2 ht
              have gi := insert_fn ⟨room, put, rows⟩ (l.getD k default) (tabOk_wf o1) hfw
              rw [ei] at gi hsn
              obtain ⟨ha, hs1, hs2⟩ := ht
              subst ha
              dsimp only [encTable] at *
              subst g2
              have p1 := pt64 (l.getD k default).Name tell (by omega) (by omega)
              have hl1 := txtE_len 64 31 (l.getD k default).Name (by omega)
              have p2 := pt0 (l.getD k default).Value (tell ++ txtE 64 31 (l.getD k default).Name) (by omega) (by rw [List.length_append]; omega)
              rw [← List.append_assoc, show rs ++ [put] = rs ++ [put + 1 - 1] by rw [Int.add_sub_cancel]] at hsn
              have hm2v := hm2 (put + 1 - 1)
              have hmgv := hmg (put + 1 - 1)
              generalize hM1 : padR (rs ++ [-1]) l.length = M1 at *
              generalize hM2 : padR (rs ++ [put + 1 - 1]) l.length = M2 at *
              have hM2l : M2.length = l.length := by rw [← hm2v, List.length_set, hm1l]
              generalize fLen (l.getD k default) = fl at *
              clear hm2 hmg o4 ei g1
              (repeat' first | (refine s_call (gk) (h := ?_)) | (refine p_call (gk) (h := ?_)) | (refine s_call (gf) (h := ?_)) | (refine p_call (gf) (h := ?_)) | (refine s_call (gu) (h := ?_)) | (refine p_call (gu) (h := ?_)) | (refine s_call (gs) (h := ?_)) | (refine p_call (gs) (h := ?_)) | (refine s_call (gi) (h := ?_)) | (refine p_call (gi) (h := ?_)) | (refine s_callM [2, 4] (p1) (h := ?_)) | (refine s_callM0 [2, 4] (p1) (h := ?_)) | (refine p_callM [2, 4] (p1) (h := ?_)) | (refine s_callM [2, 22] (p2) (h := ?_)) | (refine s_callM0 [2, 22] (p2) (h := ?_)) | (refine p_callM [2, 22] (p2) (h := ?_)) | (refine s_set (r := M1.map encI) ?_ ?_ (h := ?_); (focus (first | omega | (simp only [List.length_map, List.length_append, List.length_take, List.length_drop, List.length_replicate]; omega))); (focus ((rw [← hm1]; exact set_int m k (by omega) _)))) | (refine p_set (r := M1.map encI) ?_ ?_ (h := ?_); (focus (first | omega | (simp only [List.length_map, List.length_append, List.length_take, List.length_drop, List.length_replicate]; omega))); (focus ((rw [← hm1]; exact set_int m k (by omega) _)))) | (refine s_set (r := M2.map encI) ?_ ?_ (h := ?_); (focus (first | omega | (simp only [List.length_map, List.length_append, List.length_take, List.length_drop, List.length_replicate]; omega))); (focus ((rw [← hm2v]; exact set_int M1 k (by omega) _)))) | (refine p_set (r := M2.map encI) ?_ ?_ (h := ?_); (focus (first | omega | (simp only [List.length_map, List.length_append, List.length_take, List.length_drop, List.length_replicate]; omega))); (focus ((rw [← hm2v]; exact set_int M1 k (by omega) _)))) | (refine go_ ?_; ((repeat' first | exact True.intro | refine Two.mk ?_ ?_); all_goals intros)) | fail "")
              all_goals first
                | (rw [hmgv, show put + 1 - 1 + 1 = put + 1 by omega]; (refine ⟨EnX.mk (k + 1) ⟨⟨room2, put + 1, rows2⟩, rs ++ [put + 1 - 1], max need (put + 1), tell ++ txtE 64 31 (l.getD k default).Name ++ txtE 0 127 (l.getD k default).Value⟩ M2, ?_, ?_, ?_⟩; rotate_left 2; (exact lessA_); (focus (dsimp only; omega)); (focus (exact ⟨hkn, hsn.symm, hM2.symm⟩))))
                | skip
            · rw [enStep_n hkS hfd ht] at hsn
              unfold enTell at ht
              dsimp only [encTable] at *
              have hmgv := hmg (-1)
              generalize hM1 : padR (rs ++ [-1]) l.length = M1 at *
              have en : max need (-1 + 1) = need := by omega
              generalize fLen (l.getD k default) = fl at *
              clear hm2 hmg o4
              cases ahead
              · clear ht
                (repeat' first | (refine s_call (gk) (h := ?_)) | (refine p_call (gk) (h := ?_)) | (refine s_call (gf) (h := ?_)) | (refine p_call (gf) (h := ?_)) | (refine s_set (r := M1.map encI) ?_ ?_ (h := ?_); (focus (first | omega | (simp only [List.length_map, List.length_append, List.length_take, List.length_drop, List.length_replicate]; omega))); (focus ((rw [← hm1]; exact set_int m k (by omega) _)))) | (refine p_set (r := M1.map encI) ?_ ?_ (h := ?_); (focus (first | omega | (simp only [List.length_map, List.length_append, List.length_take, List.length_drop, List.length_replicate]; omega))); (focus ((rw [← hm1]; exact set_int m k (by omega) _)))) | (refine go_ ?_; ((repeat' first | exact True.intro | refine Two.mk ?_ ?_); all_goals intros)) | fail "")
                all_goals first
                  | (rw [hmgv, en]; (refine ⟨EnX.mk (k + 1) ⟨⟨room, put, rows⟩, rs ++ [-1], need, tell⟩ M1, ?_, ?_, ?_⟩; rotate_left 2; (exact lessA_); (focus (dsimp only; omega)); (focus (exact ⟨hkn, hsn.symm, hM1.symm⟩))))
                  | skip
              · have ht : ¬ ((fSum rows : Int) + (fl : Int) ≤ room ∧ put < 4611686018427387903) := fun h => ht ⟨rfl, h⟩
                (repeat' first | (refine s_call (gk) (h := ?_)) | (refine p_call (gk) (h := ?_)) | (refine s_call (gf) (h := ?_)) | (refine p_call (gf) (h := ?_)) | (refine s_call (gu) (h := ?_)) | (refine p_call (gu) (h := ?_)) | (refine s_call (gs) (h := ?_)) | (refine p_call (gs) (h := ?_)) | (refine s_set (r := M1.map encI) ?_ ?_ (h := ?_); (focus (first | omega | (simp only [List.length_map, List.length_append, List.length_take, List.length_drop, List.length_replicate]; omega))); (focus ((rw [← hm1]; exact set_int m k (by omega) _)))) | (refine p_set (r := M1.map encI) ?_ ?_ (h := ?_); (focus (first | omega | (simp only [List.length_map, List.length_append, List.length_take, List.length_drop, List.length_replicate]; omega))); (focus ((rw [← hm1]; exact set_int m k (by omega) _)))) | (refine go_ ?_; ((repeat' first | exact True.intro | refine Two.mk ?_ ?_); all_goals intros)) | fail "")
                all_goals first
                  | (rw [hmgv, en]; (refine ⟨EnX.mk (k + 1) ⟨⟨room, put, rows⟩, rs ++ [-1], need, tell⟩ M1, ?_, ?_, ?_⟩; rotate_left 2; (exact lessA_); (focus (dsimp only; omega)); (focus (exact ⟨hkn, hsn.symm, hM1.symm⟩))))
                  | skip
      · have hkl : k = l.length := by omega
        subst hkl
        rw [hE] at hx
        subst hx
        obtain ⟨o1, o2, o3, o4, o5⟩ := hxo
        rw [padR_all o2] at hm
        have hput := o1.1
        have hol := enOut_len hfo o4 o3.1 (by omega) o2
        clear hat hE
        obtain ⟨⟨room, put, rows⟩, rs, need, tell⟩ := x
        dsimp only [encTable] at *
        subst m
        obtain ⟨need, rfl⟩ := Int.eq_ofNat_of_zero_le o3.1
        (repeat' first | (refine goU_ 28 ?_; ((repeat' first | exact True.intro | refine Two.mk ?_ ?_); all_goals intros)) | fail "")
        refine r_less (less_box1 (id := 5) (T := 123) 5 1 rfl rfl rfl rfl) ?_
        dsimp only
        have q0 := pn0 need [] (by omega) (by simp)
        (repeat' first | (refine s_callM [5, 6] (q0) (h := ?_)) | (refine s_callM0 [5, 6] (q0) (h := ?_)) | (refine p_callM [5, 6] (q0) (h := ?_)) | (refine go_ ?_; ((repeat' first | exact True.intro | refine Two.mk ?_ ?_); all_goals intros)) | fail "")
        refine r_for (fun y : Nat × List UInt8 => ⟨[(3, .ptr 0 0 0 0), (6, .ptr 1 0 0 0), (12, .ptr 2 0 0 0), (13, .own 3), (14, .lit (.int .i64 need)), (23, .ptr 5 0 0 0), (135, .ro (l.map encField)), (136, .lit (.int .i64 l.length)), (137, .lit (.int .i64 y.1))], [(0, some (.box 24 [.lit (.int .i64 room), .lit (.int .i64 put), .ro (rows.map encField)])), (1, some (.box 24 [.lit (.int .i64 0), .lit (.int .i64 0), .lit (.slice none 0 0)])), (2, some (.box 123 [.own 4])), (3, some (.row 3 1 (rs.map encI))), (4, some (.row 5 1 (tell.map encB))), (5, some (.box 123 [.own 7])), (7, some (.row 5 1 (y.2.map encB)))], 8, Try.f19.ntmps⟩)
          (fun y => y.1 ≤ l.length ∧ y.2 = enOut l rs need y.1) (fun y => l.length - y.1) (0, preE 0 255 need) ⟨Nat.zero_le _, by simp only [enOut, Int.toNat_natCast]⟩ less_to ?_
        clear q0
        rintro ⟨k, out⟩ ⟨hk, ho⟩
        dsimp only at hk ho ⊢
        have hlen := hol k hk
        rw [← ho] at hlen
        by_cases hkn : k < l.length
        · have hfo2 := hfo _ (getD_mem hkn)
          have hr := o4 _ (getD_mem (show k < rs.length by omega))
          have hso : enOut l rs need (k + 1) = out ++ enLine need (l.getD k default) (rs.getD k default) := by rw [ho]; rfl
          have gk := knownF_fn (l.getD k default)
          have hnl := hfo2.2.1
          have hvl := hfo2.2.2
          clear ho hol o4 hfo hl
          cases hkS : knS (l.getD k default) with
          | some i =>
            rw [knR_s hkS] at gk
            rw [enLine_k hkS] at hso
            have hi := firstIx_lt hkS
            rw [knownL_len] at hi
            unfold encKn at gk
            dsimp only at gk
            have p1 := pn192 i out (by omega) (by omega)
            (repeat' first | (refine s_call (gk) (h := ?_)) | (refine p_call (gk) (h := ?_)) | (refine s_callM [5, 7] (p1) (h := ?_)) | (refine s_callM0 [5, 7] (p1) (h := ?_)) | (refine p_callM [5, 7] (p1) (h := ?_)) | (refine go_ ?_; ((repeat' first | exact True.intro | refine Two.mk ?_ ?_); all_goals intros)) | fail "")
            all_goals first
              | (refine ⟨(k + 1, out ++ preE 192 63 i), ?_, ?_, ?_⟩; rotate_left 2; (exact lessA_); (focus (dsimp only; omega)); (focus (exact ⟨hkn, hso.symm⟩)))
              | skip
          | none =>
            rw [knR_n hkS] at gk
            unfold encKn at gk
            by_cases hr0 : 0 ≤ rs.getD k default
            · rw [enLine_r hkS hr0] at hso
              generalize atN (knN (l.getD k default)) = at0 at *
              generalize (knN (l.getD k default)).isSome = there at *
              dsimp only at gk
              have p1 := pn128 ((need : Int) - 1 - rs.getD k default).toNat out (by omega) (by omega)
              rw [Int.toNat_of_nonneg (show 0 ≤ (need : Int) - 1 - rs.getD k default by omega)] at p1
              (repeat' first | (refine s_call (gk) (h := ?_)) | (refine p_call (gk) (h := ?_)) | (refine s_callM [5, 7] (p1) (h := ?_)) | (refine s_callM0 [5, 7] (p1) (h := ?_)) | (refine p_callM [5, 7] (p1) (h := ?_)) | (refine go_ ?_; ((repeat' first | exact True.intro | refine Two.mk ?_ ?_); all_goals intros)) | fail "")
              all_goals first
                | (refine ⟨(k + 1, out ++ preE 128 63 ((need : Int) - 1 - rs.getD k default).toNat), ?_, ?_, ?_⟩; rotate_left 2; (exact lessA_); (focus (dsimp only; omega)); (focus (exact ⟨hkn, hso.symm⟩)))
                | skip
            · cases hkN : knN (l.getD k default) with
              | some j =>
                rw [hkN] at gk
                rw [enLine_n hkS hr0 hkN, ← List.append_assoc] at hso
                have hj := firstIx_lt hkN
                rw [knownL_len] at hj
                dsimp only [atN, Option.isSome] at gk
                have p1 := pn64 j out (by omega) (by omega)
                have hl1 := preE_len 64 15 j (by omega)
                have p2 := pt0 (l.getD k default).Value (out ++ preE 64 15 j) (by omega) (by rw [List.length_append]; omega)
                (repeat' first | (refine s_call (gk) (h := ?_)) | (refine p_call (gk) (h := ?_)) | (refine s_callM [5, 7] (p1) (h := ?_)) | (refine s_callM0 [5, 7] (p1) (h := ?_)) | (refine p_callM [5, 7] (p1) (h := ?_)) | (refine s_callM [5, 9] (p2) (h := ?_)) | (refine s_callM0 [5, 9] (p2) (h := ?_)) | (refine p_callM [5, 9] (p2) (h := ?_)) | (refine go_ ?_; ((repeat' first | exact True.intro | refine Two.mk ?_ ?_); all_goals intros)) | fail "")
                all_goals first
                  | (refine ⟨(k + 1, out ++ preE 64 15 j ++ txtE 0 127 (l.getD k default).Value), ?_, ?_, ?_⟩; rotate_left 2; (exact lessA_); (focus (dsimp only; omega)); (focus (exact ⟨hkn, hso.symm⟩)))
                  | skip
              | none =>
                rw [hkN] at gk
                rw [enLine_0 hkS hr0 hkN, ← List.append_assoc] at hso
                dsimp only [atN, Option.isSome] at gk
                have p1 := pt32 (l.getD k default).Name out (by omega) (by omega)
                have hl1 := txtE_len 32 7 (l.getD k default).Name (by omega)
                have p2 := pt0 (l.getD k default).Value (out ++ txtE 32 7 (l.getD k default).Name) (by omega) (by rw [List.length_append]; omega)
                (repeat' first | (refine s_call (gk) (h := ?_)) | (refine p_call (gk) (h := ?_)) | (refine s_callM [5, 7] (p1) (h := ?_)) | (refine s_callM0 [5, 7] (p1) (h := ?_)) | (refine p_callM [5, 7] (p1) (h := ?_)) | (refine s_callM [5, 9] (p2) (h := ?_)) | (refine s_callM0 [5, 9] (p2) (h := ?_)) | (refine p_callM [5, 9] (p2) (h := ?_)) | (refine go_ ?_; ((repeat' first | exact True.intro | refine Two.mk ?_ ?_); all_goals intros)) | fail "")
                all_goals first
                  | (refine ⟨(k + 1, out ++ txtE 32 7 (l.getD k default).Name ++ txtE 0 127 (l.getD k default).Value), ?_, ?_, ?_⟩; rotate_left 2; (exact lessA_); (focus (dsimp only; omega)); (focus (exact ⟨hkn, hso.symm⟩)))
                  | skip
        · have hkl : k = l.length := by omega
          subst hkl
          rw [← ho]
          clear hol ho
          (repeat' first | (refine go_ ?_; ((repeat' first | exact True.intro | refine Two.mk ?_ ?_); all_goals intros)) | fail "")
          all_goals first
            | (exact endwA_)
            | skip
    · rw [if_pos hf0]
      clear h3
      generalize fldsFlt l = e at *
      refine fn_of_run (by kernel_rfl) Try.func19 rfl (by kernel_rfl) ?_
      (repeat' first | (refine s_call (h1) (h := ?_)) | (refine p_call (h1) (h := ?_)) | (refine s_call (h2) (h := ?_)) | (refine p_call (h2) (h := ?_)) | (refine go_ ?_; ((repeat' first | exact True.intro | refine Two.mk ?_ ?_); all_goals intros)) | fail "")
      all_goals first
        | (exact endwA_)
        | skip
  · rw [h0] at h1 ⊢
    rw [if_pos (by decide)]
    clear h2 h3
    refine fn_of_run (by kernel_rfl) Try.func19 rfl (by kernel_rfl) ?_
    (repeat' first | (refine s_call (h1) (h := ?_)) | (refine p_call (h1) (h := ?_)) | (refine go_ ?_; ((repeat' first | exact True.intro | refine Two.mk ?_ ?_); all_goals intros)) | fail "")
    all_goals first
      | (exact endwA_)
      | skip
end Go.Proofs.Ythpophgcmgdpjaa
