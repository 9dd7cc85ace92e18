/-
  request.Check and the reference's RequestFault: what each answers. No condition.
-/
import Derived.Test.YthpophgcmgdpjaaGo
import Derived.Test.YthpophgcmgdpjaaReqP
set_option linter.unusedVariables false
set_option linter.unusedSimpArgs false
set_option linter.unusedVariables false
namespace Go.Proofs.Ythpophgcmgdpjaa
set_option maxRecDepth 100000
attribute [local irreducible] Run RunL QStep GStep Fn Less PL FnM

theorem fldsFlt_ok2 {l : List DField} (h : fldsFlt l = 0) : l.length ≤ 8 ∧ ∀ f ∈ l, fldOk f := by
  unfold fldsFlt at h
  split at h
  · cases h
  · split at h
    · exact ⟨by omega, by assumption⟩
    · cases h
set_option maxHeartbeats 4000000 in
theorem reqCheck_fn (l : List DField) (hl : ∀ y, y ∈ l → wfField y) (hll : l.length * 32 ≤ 140737488355328) : Fn Try.prog 30 [.ro (l.map encField)] (.lit (.int .i64 (reqFlt l))) := by
  have h1 := fldsCheck_fn l hl hll
  by_cases hf0 : fldsFlt l = 0
  · obtain ⟨hl8, hfo⟩ := fldsFlt_ok2 hf0
    rw [hf0] at h1
    have e3 : ¬ ReqOk l → reqFlt l = 3 := reqFlt_n hf0
    have e0 : ReqOk l → reqFlt l = 0 := reqFlt_y hf0
    generalize reqFlt l = r at *
    refine fn_of_run (by kernel_rfl) Try.func30 rfl (by kernel_rfl) ?_
    (repeat' first | (refine s_call (h1) (h := ?_)) | (refine p_call (h1) (h := ?_)) | (refine go_ ?_; ((repeat' first | exact True.intro | refine Two.mk ?_ ?_); all_goals intros)) | fail "")
    refine r_for (fun x : Nat × Bool × List (List UInt8 × Nat) => ⟨[(4, .own 0), (5, .lit (.bool x.2.1)), (16, .ro (l.map encField)), (17, .lit (.int .i64 l.length)), (18, .lit (.int .i64 x.1))], [(0, some (.map none (encM x.2.2)))], 1, Try.f30.ntmps⟩)
      (fun x => x.2.2 = amOf (psN (l.take x.1)) ∧ ReqAt l x.1 x.2.1 ∧ ∀ j, j < x.1 → isPs (l.getD j default) → allowed (l.getD j default).Name ∧ acnt (l.getD j default).Name (amOf (psN (l.take j))) = 0) (fun x => l.length - x.1) (0, false, []) ⟨rfl, reqAt_0 l, fun j h => by omega⟩ less_to ?_
    rintro ⟨k, plain, M⟩ ⟨hM, hx, hgood⟩
    dsimp only at hM hx hgood ⊢
    have hk := hx.le
    by_cases hkn : k < l.length
    · have hfo2 := hfo _ (getD_mem hkn)
      have hnl := hfo2.2.1
      have hnl1 := hfo2.1
      have hpsl := psN_len (l.take k)
      have hcl : acnt (l.getD k default).Name (amOf (psN (l.take k))) ≤ 8 := by
        rw [acnt_am]
        have := List.count_le_length (a := (l.getD k default).Name) (l := psN (l.take k))
        rw [List.length_take] at hpsl
        omega
      have hch := fun i hi hc => e3 (not_ch (l := l) (k := k) (i := i) hkn hi hc)
      have hsq := fun h hp => e3 (not_seq (l := l) (k := k) h hkn hp)
      have hal := fun hp ha => e3 (not_allowed (l := l) (k := k) hkn hp ha)
      have htw := fun hp hc => e3 (not_twice (l := l) (k := k) hkn hp hc)
      have hpt := psN_t hkn
      have hpf := psN_f hkn
      rw [← hM] at hcl htw
      (repeat' first | (refine go_ ?_; ((repeat' first | exact True.intro | refine Two.mk ?_ ?_); all_goals intros)) | fail "")
      refine r_for (fun i : Nat => ⟨[(4, .own 0), (5, .lit (.bool plain)), (7, .ptr 1 0 0 0), (16, .ro (l.map encField)), (17, .lit (.int .i64 l.length)), (18, .lit (.int .i64 k)), (24, .ro ((l.getD k default).Name.map encB)), (25, .lit (.int .i64 (l.getD k default).Name.length)), (26, .lit (.int .i64 i))], [(0, some (.map none (encM M))), (1, some (.box 113 (encField (l.getD k default))))], 2, Try.f30.ntmps⟩)
        (fun i => i ≤ (l.getD k default).Name.length ∧ ∀ j, j < i → chOk ((l.getD k default).Name.getD j default)) (fun i => (l.getD k default).Name.length - i) 0 ⟨Nat.zero_le _, fun j h => by omega⟩ less_to ?_
      rintro i ⟨hi, hci⟩
      by_cases hin : i < (l.getD k default).Name.length
      · have hb := (l.getD k default).Name.getD i default |>.toNat_lt
        have hci2 := hch i hin
        unfold chOk at hci2
        clear hgood hsq hal htw hpt hpf
        (repeat' first | (refine go_ ?_; ((repeat' first | exact True.intro | refine Two.mk ?_ ?_); all_goals intros)) | fail "")
        all_goals first
          | (refine ends_ (hr := ?_); rw [hci2 (by omega)])
          | (refine ⟨i + 1, ?_, ?_, ?_⟩; rotate_left 2; (exact lessA_); (focus (omega)); (focus (exact ⟨hin, upto_succ hci (by unfold chOk; omega)⟩)))
          | skip
      · have hil : i = (l.getD k default).Name.length := by omega
        subst hil
        have hcs := chars_all hci
        have nx1 := reqAt_plain hx hkn hcs
        have nx2 : plain = false → isPs (l.getD k default) → ReqAt l (k + 1) false := fun e => by rw [e] at hx; exact reqAt_ps hx hkn hcs
        have hsq2 : plain = true → isPs (l.getD k default) → r = 3 := fun e => by rw [e] at hx; exact hsq hx
        have hlk := look_m (l.getD k default).Name M
        have hlk2 := look_m (l.getD k default).Name (inc (l.getD k default).Name M)
        rw [acnt_inc, if_pos rfl] at hlk2
        have hput := put_m (l.getD k default).Name M
        by_cases hps : isPs (l.getD k default)
        · have hps2 := hps
          unfold isPs at hps2
          have hpt := hpt hps
          have hal := hal hps
          have htw := htw hps
          have hsq2 := fun e => hsq2 e hps
          have nx2 := fun e => nx2 e hps
          clear hch hsq hpf nx1 hcs hci
          by_cases ha : allowed (l.getD k default).Name
          · cases plain
            all_goals (repeat' first | (refine s_look (r := .int .i64 (acnt (l.getD k default).Name M : Int)) ?_ (h := ?_); (focus ((exact hlk)))) | (refine s_insertR (r := encM (inc (l.getD k default).Name M)) ?_ (h := ?_); (focus ((exact hput)))) | (refine s_look (r := .int .i64 ((acnt (l.getD k default).Name M + 1 : Nat) : Int)) ?_ (h := ?_); (focus ((exact hlk2)))) | (refine goI_ ?_; ((repeat' first | exact True.intro | refine Two.mk ?_ ?_); all_goals intros)) | refine s_i (h := ?_) | refine s_i (hq := q_index_ro rfl rfl rfl (by first | exact lit0 | exact lit1 | exact lit2 | exact lit3 | rfl) (by simp only [List.length_cons, List.length_nil]; omega) rfl rfl rfl rfl) (h := ?_) | refine p_i (h := ?_) | refine p_ih (h := ?_) | refine s_lit (h := ?_) | refine p_lit (h := ?_) | refine p_lit0 (h := ?_) | refine s_lit0 (h := ?_) | refine s_ixa (h := ?_) | refine s_insert (h := ?_) | (refine s_sadd rfl ?_ (h := ?_); (focus (first | omega | (simp only [List.length_append, List.length_map, List.length_cons, List.length_nil, List.length_take, List.length_drop]; omega)))) | (refine p_sadd rfl ?_ (h := ?_); (focus (first | omega | (simp only [List.length_append, List.length_map, List.length_cons, List.length_nil, List.length_take, List.length_drop]; omega)))) | fail "")
            all_goals first
              | (refine ends_ (hr := ?_); rw [htw (by omega)])
              | (refine ends_ (hr := ?_); rw [hsq2 rfl])
              | (exfalso; rcases ha with ha | ha | ha <;> contradiction)
              | (refine ⟨(k + 1, false, inc (l.getD k default).Name M), ?_, ?_, ?_⟩; rotate_left 2; (exact lessA_); (focus (dsimp only; omega)); (focus (exact ⟨by dsimp only; rw [hpt, amOf_snoc, hM], nx2 rfl, upto_succ hgood (fun _ => ⟨ha, by rw [← hM]; omega⟩)⟩)))
              | skip
          · have hal := hal ha
            cases plain
            all_goals (repeat' first | (refine s_look (r := .int .i64 (acnt (l.getD k default).Name M : Int)) ?_ (h := ?_); (focus ((exact hlk)))) | (refine s_insertR (r := encM (inc (l.getD k default).Name M)) ?_ (h := ?_); (focus ((exact hput)))) | (refine s_look (r := .int .i64 ((acnt (l.getD k default).Name M + 1 : Nat) : Int)) ?_ (h := ?_); (focus ((exact hlk2)))) | (refine goI_ ?_; ((repeat' first | exact True.intro | refine Two.mk ?_ ?_); all_goals intros)) | refine s_i (h := ?_) | refine s_i (hq := q_index_ro rfl rfl rfl (by first | exact lit0 | exact lit1 | exact lit2 | exact lit3 | rfl) (by simp only [List.length_cons, List.length_nil]; omega) rfl rfl rfl rfl) (h := ?_) | refine p_i (h := ?_) | refine p_ih (h := ?_) | refine s_lit (h := ?_) | refine p_lit (h := ?_) | refine p_lit0 (h := ?_) | refine s_lit0 (h := ?_) | refine s_ixa (h := ?_) | refine s_insert (h := ?_) | (refine s_sadd rfl ?_ (h := ?_); (focus (first | omega | (simp only [List.length_append, List.length_map, List.length_cons, List.length_nil, List.length_take, List.length_drop]; omega)))) | (refine p_sadd rfl ?_ (h := ?_); (focus (first | omega | (simp only [List.length_append, List.length_map, List.length_cons, List.length_nil, List.length_take, List.length_drop]; omega)))) | fail "")
            all_goals first
              | (refine ends_ (hr := ?_); rw [hal])
              | (exfalso; apply ha; unfold allowed; first | exact .inl (by assumption) | exact .inr (.inl (by assumption)) | exact .inr (.inr (by assumption)))
              | skip
        · have hps2 := hps
          unfold isPs at hps2
          have nx1 := nx1 hps
          have hpf := hpf hps
          clear hch hsq hpt hal htw hlk hlk2 hput nx2 hsq2
          (repeat' first | (refine go_ ?_; ((repeat' first | exact True.intro | refine Two.mk ?_ ?_); all_goals intros)) | fail "")
          all_goals first
            | (refine ⟨(k + 1, true, M), ?_, ?_, ?_⟩; rotate_left 2; (exact lessA_); (focus (dsimp only; omega)); (focus (exact ⟨by dsimp only; rw [hpf, hM], nx1, upto_succ hgood (fun hp => absurd hp hps)⟩)))
            | skip
    · have hkl : k = l.length := by omega
      subst hkl
      have hga := good_all l.length (Nat.le_refl _) hgood
      rw [List.take_length] at hM hga
      have q0 := fun h1 h2 => e0 (reqOk_of hx hga h1 h2)
      have q1 := fun h1 : acnt nM (amOf (psN l)) ≠ 1 => e3 (fun h => h1 (reqOk_m h))
      have q2 := fun h1 : acnt nP (amOf (psN l)) ≠ 1 => e3 (fun h => h1 (reqOk_p h))
      rw [← hM] at q0 q1 q2
      (repeat' first | (refine s_look (r := .int .i64 (acnt nM M : Int)) ?_ (h := ?_); (focus ((exact look_m nM M)))) | (refine s_look (r := .int .i64 (acnt nP M : Int)) ?_ (h := ?_); (focus ((exact look_m nP M)))) | (refine go_ ?_; ((repeat' first | exact True.intro | refine Two.mk ?_ ?_); all_goals intros)) | fail "")
      all_goals first
        | (refine ends_ (hr := ?_); rw [q0 (by omega) (by omega)])
        | (refine ends_ (hr := ?_); rw [q1 (by omega)])
        | (refine ends_ (hr := ?_); rw [q2 (by omega)])
        | skip
  · have e := reqFlt_e hf0
    rw [e]
    generalize fldsFlt l = r at *
    refine fn_of_run (by kernel_rfl) Try.func30 rfl (by kernel_rfl) ?_
    (repeat' first | (refine s_call (h1) (h := ?_)) | (refine p_call (h1) (h := ?_)) | (refine go_ ?_; ((repeat' first | exact True.intro | refine Two.mk ?_ ?_); all_goals intros)) | fail "")
    all_goals first
      | exact ends_ (hr := rfl)
      | skip
end Go.Proofs.Ythpophgcmgdpjaa
