/-
  The reference's FieldsBytes: what it answers. No condition.
-/
import Derived.Test.YthpophgcmgdpjaaGo
import Derived.Test.YthpophgcmgdpjaaEnM
set_option linter.unusedVariables false
set_option linter.unusedSimpArgs false
set_option linter.unusedVariables false
namespace Go.Proofs.Ythpophgcmgdpjaa
set_option maxRecDepth 100000
attribute [local irreducible] Run RunL QStep GStep Fn Less PL FnM

def encEb (r : DTable × List UInt8 × List UInt8 × Int) : V := .tup [.agg (encTable r.1), .lit (.string (strB r.2.1)), .lit (.string (strB r.2.2.1)), .lit (.int .i64 r.2.2.2)]
structure EbX where
  k : Nat
  x : EnS
  es : List (Value × Value)
structure EbXok (ahead : Bool) (t : DTable) (l : List DField) (y : EbX) : Prop where
  k : y.k ≤ l.length
  x : y.x = enAt ahead t l y.k
  es : y.es = refsM 0 y.x.rs
set_option maxHeartbeats 16000000 in
theorem fieldsBytes_fn (t : DTable) (l : List DField) (ahead : Bool) (hw : wfTable t) (hl : ∀ y, y ∈ l → wfField y) (hll : l.length * 32 ≤ 140737488355328) : Fn Try.prog 21 [.agg (encTable t), .ro (l.map encField), .lit (.bool ahead)] (encEb (enR t l ahead)) := by
  have h1 := tabFault_fn t hw
  have h2 := fldsFault_fn l hl hll
  unfold enR encEb
  rcases tabFlt_cases t with ⟨h0, hok⟩ | ⟨h0, hbad⟩
  · rw [h0] at h1
    rw [if_neg (by omega)]
    by_cases hf0 : fldsFlt l = 0
    · obtain ⟨hl8, hfo⟩ := fldsFlt_ok hf0
      rw [hf0] at h2
      rw [if_neg (by omega)]
      dsimp only
      have hat := fun k hk => enAt_ok (a := ahead) hok hfo k hk
      generalize hE : enAt ahead t l l.length = E
      refine fn_of_run (by kernel_rfl) Try.func21 rfl (by kernel_rfl) ?_
      (repeat' first | (refine s_call (h1) (h := ?_)) | (refine p_call (h1) (h := ?_)) | (refine s_call (h2) (h := ?_)) | (refine p_call (h2) (h := ?_)) | (refine go_ ?_; ((repeat' first | exact True.intro | refine Two.mk ?_ ?_); all_goals intros)) | fail "")
      refine r_for (fun y : EbX => ⟨[(1, .ro (l.map encField)), (2, .lit (.bool ahead)), (3, .ptr 0 0 0 0), (6, .ptr 1 0 0 0), (12, .lit (.string (strB y.x.tell))), (13, .own 2), (14, .lit (.int .i64 y.x.need)), (39, .ro (l.map encField)), (40, .lit (.int .i64 l.length)), (41, .lit (.int .i64 y.k))], [(0, some (.box 24 (encTable y.x.t))), (1, some (.box 24 [.lit (.int .i64 0), .lit (.int .i64 0), .lit (.slice none 0 0)])), (2, some (.map (some .i64) y.es))], 3, Try.f21.ntmps⟩)
        (EbXok ahead t l) (fun y => l.length - y.k) ⟨0, ⟨t, [], 0, []⟩, []⟩ ⟨Nat.zero_le _, rfl, rfl⟩ less_to ?_
      clear h1 h2
      rintro ⟨k, x, es⟩ ⟨hk, hx, hes⟩
      dsimp only at hk hx hes ⊢
      have hxo : EnOk k x := by rw [hx]; exact hat k hk
      by_cases hkn : k < l.length
      · have hsn := enAt_snoc (ahead := ahead) (t := t) hkn
        rw [← hx] at hsn
        have hfm := getD_mem hkn
        have hfo2 := hfo _ hfm
        have hfw := hl _ hfm
        have gk := placeS_fn (l.getD k default)
        obtain ⟨o1, o2, o3, o4, o5⟩ := hxo
        have hkeep := refsM_keep 0 x.rs (-1) (by decide)
        have hnew := fun r hr => refsM_new o2 (r := r) hr
        rw [← hes] at hkeep hnew
        clear hat hx hes hE hfo o4
        obtain ⟨⟨room, put, rows⟩, rs, need, tell⟩ := x
        cases hkS : knS (l.getD k default) with
        | some i =>
          rw [hkS, plI_s] at gk
          rw [enStep_k hkS] at hsn
          dsimp only at *
          clear hnew
          (repeat' first | (refine s_call (gk) (h := ?_)) | (refine p_call (gk) (h := ?_)) | (refine go_ ?_; ((repeat' first | exact True.intro | refine Two.mk ?_ ?_); all_goals intros)) | fail "")
          all_goals first
            | (refine ⟨EbX.mk (k + 1) ⟨⟨room, put, rows⟩, rs ++ [-1], need, tell⟩ es, ?_, ?_, ?_⟩; rotate_left 2; (exact lessA_); (focus (dsimp only; omega)); (focus (exact ⟨hkn, hsn.symm, hkeep.symm⟩)))
            | skip
        | none =>
          rw [hkS, plI_n] at gk
          have gf := found_fn ⟨room, put, rows⟩ (l.getD k default) (tabOk_wf o1) hfw
          have t0 := tabFlt_t o1
          have hroom := o1.1
          cases hfd : fdS ⟨room, put, rows⟩ (l.getD k default) with
          | some i =>
            have hil := lastIx_lt hfd
            rw [find_s t0 hfd] at gf
            rw [enStep_f hkS hfd] at hsn
            unfold encFind at gf
            dsimp only [encTable] at *
            generalize hv : put - (rows.length : Int) + i = v at *
            have hnewv := hnew v (by omega)
            clear hnew hkeep
            (repeat' first | (refine s_call (gk) (h := ?_)) | (refine p_call (gk) (h := ?_)) | (refine s_call (gf) (h := ?_)) | (refine p_call (gf) (h := ?_)) | (refine go_ ?_; ((repeat' first | exact True.intro | refine Two.mk ?_ ?_); all_goals intros)) | fail "")
            all_goals first
              | (rw [hnewv]; (refine ⟨EbX.mk (k + 1) ⟨⟨room, put, rows⟩, rs ++ [v], max need (v + 1), tell⟩ (refsM 0 (rs ++ [v])), ?_, ?_, ?_⟩; rotate_left 2; (exact lessA_); (focus (dsimp only; omega)); (focus (exact ⟨hkn, hsn.symm, rfl⟩))))
              | skip
          | none =>
            obtain ⟨n, e, hfe, he⟩ := find_no t0 hfd
            rw [hfe] at gf
            unfold encFind at gf
            have gu := weight_fn rows (tabOk_wf o1).2.2.2 (by have := (tabOk_wf o1).2.2.1; dsimp only at this; omega)
            have hsum := o1.2.2
            have hput := o1.1
            dsimp only at hsum hput
            rw [wSum_all (show fSum rows ≤ 9223372036854775807 by omega)] at gu
            have hnl := hfo2.2.1
            have hvl := hfo2.2.2
            have hfl : fLen (l.getD k default) = (l.getD k default).Name.length + (l.getD k default).Value.length + 32 := rfl
            have gs := weight_fn [l.getD k default] (fun y hy => by rw [List.mem_singleton.1 hy]; exact hfw) (by simp)
            have hf1 : fSum [l.getD k default] = fLen (l.getD k default) := by simp [fSum]
            rw [wSum_all (by rw [hf1]; omega), hf1] at gs
            have hsl : (l.take (k + 1)).drop k = [l.getD k default] := by
              rw [take_snoc hkn, List.drop_append_of_le_length (by rw [List.length_take]; omega), List.drop_of_length_le (by rw [List.length_take]; omega)]; rfl
            by_cases ht : enTell ahead ⟨room, put, rows⟩ (l.getD k default)
            · rw [enStep_t hkS hfd ht] at hsn
              obtain ⟨⟨room2, put2, rows2⟩, ei, g1, g2⟩ := ins_told o1 hfo2 ht
              have gi := insertRef_fn ⟨room, put, rows⟩ (l.getD k default) (tabOk_wf o1) hfw
              rw [ei] at gi hsn
              obtain ⟨ha, hs1, hs2⟩ := ht
              subst ha
              dsimp only [encTable] at *
              have p1 := px64_31 (l.getD k default).Name.length (by omega)
              have l1 := preE_len 64 31 (l.getD k default).Name.length (by omega)
              have p2 := px0_127 (l.getD k default).Value.length (by omega)
              have l2 := preE_len 0 127 (l.getD k default).Value.length (by omega)
              have hnewv := hnew put (by omega)
              generalize fLen (l.getD k default) = fl at *
              unfold txtE at hsn
              generalize preE 64 31 (l.getD k default).Name.length = q1 at *
              generalize preE 0 127 (l.getD k default).Value.length = q2 at *
              clear hnew hkeep ei g1
              (repeat' first | (refine s_call (gk) (h := ?_)) | (refine p_call (gk) (h := ?_)) | (refine s_call (gf) (h := ?_)) | (refine p_call (gf) (h := ?_)) | (refine s_call (gu) (h := ?_)) | (refine p_call (gu) (h := ?_)) | (refine s_call (gs) (h := ?_)) | (refine p_call (gs) (h := ?_)) | (refine s_call (gi) (h := ?_)) | (refine p_call (gi) (h := ?_)) | (refine s_call (p1) (h := ?_)) | (refine p_call (p1) (h := ?_)) | (refine s_call (p2) (h := ?_)) | (refine p_call (p2) (h := ?_)) | (refine s_slice (r := [l.getD k default]) (k) (k + 1) ?_ ?_ ?_ ?_ ?_ (h := ?_); (focus (first | rfl | (simp only [Option.getD_some, Option.getD_none, List.length_map]; omega))); (focus (first | rfl | (simp only [Option.getD_some, Option.getD_none, List.length_map]; omega))); (focus omega); (focus omega); (focus (first | with_reducible rfl | assumption | (simp; done)))) | (refine p_slice (r := [l.getD k default]) (k) (k + 1) ?_ ?_ ?_ ?_ ?_ (h := ?_); (focus (first | rfl | (simp only [Option.getD_some, Option.getD_none, List.length_map]; omega))); (focus (first | rfl | (simp only [Option.getD_some, Option.getD_none, List.length_map]; omega))); (focus omega); (focus omega); (focus (first | with_reducible rfl | assumption | (simp; done)))) | (refine s_slice_str (r := [l.getD k default]) (k) (k + 1) ?_ ?_ ?_ ?_ ?_ (h := ?_); (focus (first | rfl | (simp only [Option.getD_some, Option.getD_none, List.length_map]; omega))); (focus (first | rfl | (simp only [Option.getD_some, Option.getD_none, List.length_map]; omega))); (focus omega); (focus omega); (focus (first | with_reducible rfl | assumption | (simp; done)))) | (refine p_slice_str (r := [l.getD k default]) (k) (k + 1) ?_ ?_ ?_ ?_ ?_ (h := ?_); (focus (first | rfl | (simp only [Option.getD_some, Option.getD_none, List.length_map]; omega))); (focus (first | rfl | (simp only [Option.getD_some, Option.getD_none, List.length_map]; omega))); (focus omega); (focus omega); (focus (first | with_reducible rfl | assumption | (simp; done)))) | (refine s_sliceO (r := [l.getD k default]) (k) (k + 1) ?_ ?_ ?_ ?_ ?_ (h := ?_); (focus (first | rfl | (simp only [Option.getD_some, Option.getD_none, List.length_map]; omega))); (focus (first | rfl | (simp only [Option.getD_some, Option.getD_none, List.length_map]; omega))); (focus omega); (focus omega); (focus (first | with_reducible rfl | assumption | (simp; done)))) | (refine s_sliceM (r := [l.getD k default]) (k) (k + 1) ?_ ?_ ?_ ?_ ?_ (h := ?_); (focus (first | rfl | (simp only [Option.getD_some, Option.getD_none, List.length_map]; omega))); (focus (first | rfl | (simp only [Option.getD_some, Option.getD_none, List.length_map]; omega))); (focus omega); (focus omega); (focus (first | with_reducible rfl | assumption | (simp; done)))) | (refine go_ ?_; ((repeat' first | exact True.intro | refine Two.mk ?_ ?_); all_goals intros)) | fail "")
              all_goals first
                | (rw [hnewv]; (refine ⟨EbX.mk (k + 1) ⟨⟨room2, put2, rows2⟩, rs ++ [put], max need (put + 1), tell ++ (q1 ++ (l.getD k default).Name ++ q2 ++ (l.getD k default).Value)⟩ (refsM 0 (rs ++ [put])), ?_, ?_, ?_⟩; rotate_left 2; (exact lessA_); (focus (dsimp only; omega)); (focus (exact ⟨hkn, by rw [hsn]; simp only [List.append_assoc], rfl⟩))))
                | skip
            · rw [enStep_n hkS hfd ht] at hsn
              unfold enTell at ht
              dsimp only [encTable] at *
              generalize fLen (l.getD k default) = fl at *
              clear hnew
              cases ahead
              · clear ht
                (repeat' first | (refine s_call (gk) (h := ?_)) | (refine p_call (gk) (h := ?_)) | (refine s_call (gf) (h := ?_)) | (refine p_call (gf) (h := ?_)) | (refine go_ ?_; ((repeat' first | exact True.intro | refine Two.mk ?_ ?_); all_goals intros)) | fail "")
                all_goals first
                  | (refine ⟨EbX.mk (k + 1) ⟨⟨room, put, rows⟩, rs ++ [-1], need, tell⟩ es, ?_, ?_, ?_⟩; rotate_left 2; (exact lessA_); (focus (dsimp only; omega)); (focus (exact ⟨hkn, hsn.symm, hkeep.symm⟩)))
                  | skip
              · have ht : ¬ ((fSum rows : Int) + (fl : Int) ≤ room ∧ put < 4611686018427387903) := fun h => ht ⟨rfl, h⟩
                (repeat' first | (refine s_call (gk) (h := ?_)) | (refine p_call (gk) (h := ?_)) | (refine s_call (gf) (h := ?_)) | (refine p_call (gf) (h := ?_)) | (refine s_call (gu) (h := ?_)) | (refine p_call (gu) (h := ?_)) | (refine s_call (gs) (h := ?_)) | (refine p_call (gs) (h := ?_)) | (refine s_slice (r := [l.getD k default]) (k) (k + 1) ?_ ?_ ?_ ?_ ?_ (h := ?_); (focus (first | rfl | (simp only [Option.getD_some, Option.getD_none, List.length_map]; omega))); (focus (first | rfl | (simp only [Option.getD_some, Option.getD_none, List.length_map]; omega))); (focus omega); (focus omega); (focus (first | with_reducible rfl | assumption | (simp; done)))) | (refine p_slice (r := [l.getD k default]) (k) (k + 1) ?_ ?_ ?_ ?_ ?_ (h := ?_); (focus (first | rfl | (simp only [Option.getD_some, Option.getD_none, List.length_map]; omega))); (focus (first | rfl | (simp only [Option.getD_some, Option.getD_none, List.length_map]; omega))); (focus omega); (focus omega); (focus (first | with_reducible rfl | assumption | (simp; done)))) | (refine s_slice_str (r := [l.getD k default]) (k) (k + 1) ?_ ?_ ?_ ?_ ?_ (h := ?_); (focus (first | rfl | (simp only [Option.getD_some, Option.getD_none, List.length_map]; omega))); (focus (first | rfl | (simp only [Option.getD_some, Option.getD_none, List.length_map]; omega))); (focus omega); (focus omega); (focus (first | with_reducible rfl | assumption | (simp; done)))) | (refine p_slice_str (r := [l.getD k default]) (k) (k + 1) ?_ ?_ ?_ ?_ ?_ (h := ?_); (focus (first | rfl | (simp only [Option.getD_some, Option.getD_none, List.length_map]; omega))); (focus (first | rfl | (simp only [Option.getD_some, Option.getD_none, List.length_map]; omega))); (focus omega); (focus omega); (focus (first | with_reducible rfl | assumption | (simp; done)))) | (refine s_sliceO (r := [l.getD k default]) (k) (k + 1) ?_ ?_ ?_ ?_ ?_ (h := ?_); (focus (first | rfl | (simp only [Option.getD_some, Option.getD_none, List.length_map]; omega))); (focus (first | rfl | (simp only [Option.getD_some, Option.getD_none, List.length_map]; omega))); (focus omega); (focus omega); (focus (first | with_reducible rfl | assumption | (simp; done)))) | (refine s_sliceM (r := [l.getD k default]) (k) (k + 1) ?_ ?_ ?_ ?_ ?_ (h := ?_); (focus (first | rfl | (simp only [Option.getD_some, Option.getD_none, List.length_map]; omega))); (focus (first | rfl | (simp only [Option.getD_some, Option.getD_none, List.length_map]; omega))); (focus omega); (focus omega); (focus (first | with_reducible rfl | assumption | (simp; done)))) | (refine go_ ?_; ((repeat' first | exact True.intro | refine Two.mk ?_ ?_); all_goals intros)) | fail "")
                all_goals first
                  | (refine ⟨EbX.mk (k + 1) ⟨⟨room, put, rows⟩, rs ++ [-1], need, tell⟩ es, ?_, ?_, ?_⟩; rotate_left 2; (exact lessA_); (focus (dsimp only; omega)); (focus (exact ⟨hkn, hsn.symm, hkeep.symm⟩)))
                  | skip
      · have hkl : k = l.length := by omega
        subst hkl
        rw [hE] at hx
        subst hx
        obtain ⟨o1, o2, o3, o4, o5⟩ := hxo
        have hput := o1.1
        have hol := enOut_len hfo o4 o3.1 (by omega) o2
        clear hat hE
        obtain ⟨⟨room, put, rows⟩, rs, need, tell⟩ := x
        dsimp only [encTable] at *
        subst es
        obtain ⟨need, rfl⟩ := Int.eq_ofNat_of_zero_le o3.1
        have p0 := px0_255 need (by omega)
        (repeat' first | (refine s_call (p0) (h := ?_)) | (refine p_call (p0) (h := ?_)) | (refine go_ ?_; ((repeat' first | exact True.intro | refine Two.mk ?_ ?_); all_goals intros)) | fail "")
        refine r_for (fun y : Nat × List UInt8 => ⟨[(3, .ptr 0 0 0 0), (6, .ptr 1 0 0 0), (12, .lit (.string (strB tell))), (13, .own 2), (14, .lit (.int .i64 need)), (20, .lit (.string (strB y.2))), (119, .ro (l.map encField)), (120, .lit (.int .i64 l.length)), (121, .lit (.int .i64 y.1))], [(0, some (.box 24 [.lit (.int .i64 room), .lit (.int .i64 put), .ro (rows.map encField)])), (1, some (.box 24 [.lit (.int .i64 0), .lit (.int .i64 0), .lit (.slice none 0 0)])), (2, some (.map (some .i64) (refsM 0 rs)))], 3, Try.f21.ntmps⟩)
          (fun y => y.1 ≤ l.length ∧ y.2 = enOut l rs need y.1) (fun y => l.length - y.1) (0, preE 0 255 need) ⟨Nat.zero_le _, by simp only [enOut, Int.toNat_natCast]⟩ less_to ?_
        clear p0
        rintro ⟨k, out⟩ ⟨hk, ho⟩
        dsimp only at hk ho ⊢
        have hlen := hol k hk
        rw [← ho] at hlen
        by_cases hkn : k < l.length
        · have hfo2 := hfo _ (getD_mem hkn)
          have hr := o4 _ (getD_mem (show k < rs.length by omega))
          have hso : enOut l rs need (k + 1) = out ++ enLine need (l.getD k default) (rs.getD k default) := by rw [ho]; rfl
          have hlook := refsM_at (show k < rs.length by omega)
          have gk := placeS_fn (l.getD k default)
          have gn := placeN_fn (l.getD k default)
          have hnl := hfo2.2.1
          have hvl := hfo2.2.2
          have pv := px0_127 (l.getD k default).Value.length (by omega)
          have lv := preE_len 0 127 (l.getD k default).Value.length (by omega)
          generalize hM : refsM 0 rs = M at *
          generalize rs.getD k default = r at *
          clear ho hol o4 hfo hl
          cases hkS : knS (l.getD k default) with
          | some i =>
            rw [hkS, plI_s] at gk
            rw [enLine_k hkS] at hso
            have hi := firstIx_lt hkS
            rw [knownL_len] at hi
            have p1 := px192_63 i (by omega)
            have l1 := preE_len 192 63 i (by omega)
            generalize preE 192 63 i = q1 at *
            generalize preE 0 127 (l.getD k default).Value.length = q2 at *
            clear gn
            by_cases hr0 : 0 ≤ r
            · rw [if_pos hr0] at hlook
              (repeat' first | (refine s_call (gk) (h := ?_)) | (refine p_call (gk) (h := ?_)) | (refine s_call (p1) (h := ?_)) | (refine p_call (p1) (h := ?_)) | (refine s_call (pv) (h := ?_)) | (refine p_call (pv) (h := ?_)) | (refine s_look2 (r := (.int .i64 r)) (b := true) ?_ ?_ (h := ?_); (focus ((rw [hlook]; rfl))); (focus ((rw [hlook]; rfl)))) | (refine go_ ?_; ((repeat' first | exact True.intro | refine Two.mk ?_ ?_); all_goals intros)) | fail "")
              all_goals first
                | (refine ⟨(k + 1, out ++ q1), ?_, ?_, ?_⟩; rotate_left 2; (exact lessA_); (focus (dsimp only; omega)); (focus (exact ⟨hkn, hso.symm⟩)))
                | skip
            · rw [if_neg hr0] at hlook
              (repeat' first | (refine s_call (gk) (h := ?_)) | (refine p_call (gk) (h := ?_)) | (refine s_call (p1) (h := ?_)) | (refine p_call (p1) (h := ?_)) | (refine s_call (pv) (h := ?_)) | (refine p_call (pv) (h := ?_)) | (refine s_look2 (r := (.int .i64 0)) (b := false) ?_ ?_ (h := ?_); (focus ((rw [hlook]; rfl))); (focus ((rw [hlook]; rfl)))) | (refine go_ ?_; ((repeat' first | exact True.intro | refine Two.mk ?_ ?_); all_goals intros)) | fail "")
              all_goals first
                | (refine ⟨(k + 1, out ++ q1), ?_, ?_, ?_⟩; rotate_left 2; (exact lessA_); (focus (dsimp only; omega)); (focus (exact ⟨hkn, hso.symm⟩)))
                | skip
          | none =>
            rw [hkS, plI_n] at gk
            by_cases hr0 : 0 ≤ r
            · rw [enLine_r hkS hr0] at hso
              rw [if_pos hr0] at hlook
              obtain ⟨r, rfl⟩ := Int.eq_ofNat_of_zero_le hr0
              have p1 := px128_63 (need - 1 - r) (by omega)
              have l1 := preE_len 128 63 (need - 1 - r) (by omega)
              rw [show ((need - 1 - r : Nat) : Int) = (need : Int) - 1 - (r : Int) by omega] at p1
              rw [show ((need : Int) - 1 - (r : Int)).toNat = need - 1 - r by omega] at hso
              generalize preE 128 63 (need - 1 - r) = q1 at *
              generalize preE 0 127 (l.getD k default).Value.length = q2 at *
              clear gn
              (repeat' first | (refine s_call (gk) (h := ?_)) | (refine p_call (gk) (h := ?_)) | (refine s_call (p1) (h := ?_)) | (refine p_call (p1) (h := ?_)) | (refine s_call (pv) (h := ?_)) | (refine p_call (pv) (h := ?_)) | (refine s_look2 (r := (.int .i64 r)) (b := true) ?_ ?_ (h := ?_); (focus ((rw [hlook]; rfl))); (focus ((rw [hlook]; rfl)))) | (refine go_ ?_; ((repeat' first | exact True.intro | refine Two.mk ?_ ?_); all_goals intros)) | fail "")
              all_goals first
                | (refine ⟨(k + 1, out ++ q1), ?_, ?_, ?_⟩; rotate_left 2; (exact lessA_); (focus (dsimp only; omega)); (focus (exact ⟨hkn, hso.symm⟩)))
                | skip
            · rw [if_neg hr0] at hlook
              cases hkN : knN (l.getD k default) with
              | some j =>
                rw [hkN, plI_s] at gn
                rw [enLine_n hkS hr0 hkN] at hso
                have hj := firstIx_lt hkN
                rw [knownL_len] at hj
                have p1 := px64_15 j (by omega)
                have l1 := preE_len 64 15 j (by omega)
                unfold txtE at hso
                generalize preE 64 15 j = q1 at *
                generalize preE 0 127 (l.getD k default).Value.length = q2 at *
                (repeat' first | (refine s_call (gk) (h := ?_)) | (refine p_call (gk) (h := ?_)) | (refine s_call (gn) (h := ?_)) | (refine p_call (gn) (h := ?_)) | (refine s_call (p1) (h := ?_)) | (refine p_call (p1) (h := ?_)) | (refine s_call (pv) (h := ?_)) | (refine p_call (pv) (h := ?_)) | (refine s_look2 (r := (.int .i64 0)) (b := false) ?_ ?_ (h := ?_); (focus ((rw [hlook]; rfl))); (focus ((rw [hlook]; rfl)))) | (refine go_ ?_; ((repeat' first | exact True.intro | refine Two.mk ?_ ?_); all_goals intros)) | fail "")
                all_goals first
                  | (refine ⟨(k + 1, out ++ (q1 ++ (q2 ++ (l.getD k default).Value))), ?_, ?_, ?_⟩; rotate_left 2; (exact lessA_); (focus (dsimp only; omega)); (focus (exact ⟨hkn, hso.symm⟩)))
                  | skip
              | none =>
                rw [hkN, plI_n] at gn
                rw [enLine_0 hkS hr0 hkN] at hso
                have p1 := px32_7 (l.getD k default).Name.length (by omega)
                have l1 := preE_len 32 7 (l.getD k default).Name.length (by omega)
                unfold txtE at hso
                generalize preE 32 7 (l.getD k default).Name.length = q1 at *
                generalize preE 0 127 (l.getD k default).Value.length = q2 at *
                (repeat' first | (refine s_call (gk) (h := ?_)) | (refine p_call (gk) (h := ?_)) | (refine s_call (gn) (h := ?_)) | (refine p_call (gn) (h := ?_)) | (refine s_call (p1) (h := ?_)) | (refine p_call (p1) (h := ?_)) | (refine s_call (pv) (h := ?_)) | (refine p_call (pv) (h := ?_)) | (refine s_look2 (r := (.int .i64 0)) (b := false) ?_ ?_ (h := ?_); (focus ((rw [hlook]; rfl))); (focus ((rw [hlook]; rfl)))) | (refine go_ ?_; ((repeat' first | exact True.intro | refine Two.mk ?_ ?_); all_goals intros)) | fail "")
                all_goals first
                  | (refine ⟨(k + 1, out ++ (q1 ++ (l.getD k default).Name ++ (q2 ++ (l.getD k default).Value))), ?_, ?_, ?_⟩; rotate_left 2; (exact lessA_); (focus (dsimp only; omega)); (focus (exact ⟨hkn, hso.symm⟩)))
                  | skip
        · have hkl : k = l.length := by omega
          subst hkl
          have e : (↑need : Int) = need := rfl
          rw [← ho]
          clear hol ho
          (repeat' first | (refine go_ ?_; ((repeat' first | exact True.intro | refine Two.mk ?_ ?_); all_goals intros)) | fail "")
          all_goals first
            | (exact endwA_)
            | skip
    · rw [if_pos hf0]
      generalize fldsFlt l = e at *
      refine fn_of_run (by kernel_rfl) Try.func21 rfl (by kernel_rfl) ?_
      (repeat' first | (refine s_call (h1) (h := ?_)) | (refine p_call (h1) (h := ?_)) | (refine s_call (h2) (h := ?_)) | (refine p_call (h2) (h := ?_)) | (refine go_ ?_; ((repeat' first | exact True.intro | refine Two.mk ?_ ?_); all_goals intros)) | fail "")
      all_goals first
        | (exact endwA_)
        | skip
  · rw [h0] at h1 ⊢
    rw [if_pos (by decide)]
    clear h2
    refine fn_of_run (by kernel_rfl) Try.func21 rfl (by kernel_rfl) ?_
    (repeat' first | (refine s_call (h1) (h := ?_)) | (refine p_call (h1) (h := ?_)) | (refine go_ ?_; ((repeat' first | exact True.intro | refine Two.mk ?_ ?_); all_goals intros)) | fail "")
    all_goals first
      | (exact endwA_)
      | skip
end Go.Proofs.Ythpophgcmgdpjaa
