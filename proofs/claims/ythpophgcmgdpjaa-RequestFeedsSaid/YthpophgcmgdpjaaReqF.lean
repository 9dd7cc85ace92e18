/-
  The reference's RequestFault: what it answers. No condition.
-/
import Derived.Test.YthpophgcmgdpjaaGo
import Derived.Test.YthpophgcmgdpjaaReqP
set_option linter.unusedVariables false
set_option linter.unusedSimpArgs false
set_option linter.unusedVariables false
namespace Go.Proofs.Ythpophgcmgdpjaa
set_option maxRecDepth 100000
attribute [local irreducible] Run RunL QStep GStep Fn Less PL FnM

theorem fldsFlt_ok3 {l : List DField} (h : fldsFlt l = 0) : l.length ≤ 8 ∧ ∀ f ∈ l, fldOk f := by
  unfold fldsFlt at h
  split at h
  · cases h
  · split at h
    · exact ⟨by omega, by assumption⟩
    · cases h
/-- an entry that may be -/
def goodV (kv : Value × Value) : Prop := ∃ n c, kv = encP (n, c) ∧ allowed n ∧ c ≤ 1
theorem erase_mem {α : Type} {x : α} : ∀ {l : List α} {i : Nat}, x ∈ l.eraseIdx i → x ∈ l
  | [], _, h => by simp at h
  | a :: l, 0, h => List.mem_cons_of_mem _ h
  | a :: l, i + 1, h => by
    simp only [List.eraseIdx_cons_succ] at h
    rcases List.mem_cons.1 h with h | h
    · exact h ▸ List.mem_cons_self
    · exact List.mem_cons_of_mem _ (erase_mem h)
theorem mem_erase {α : Type} {x : α} : ∀ {l : List α} {i : Nat} (hi : i < l.length), x ∈ l → x ∈ l.eraseIdx i ∨ x = l[i]
  | [], _, hi, h => by cases h
  | a :: l, 0, hi, h => by
    rcases List.mem_cons.1 h with h | h
    · exact .inr h
    · exact .inl h
  | a :: l, i + 1, hi, h => by
    simp only [List.eraseIdx_cons_succ, List.getElem_cons_succ]
    rcases List.mem_cons.1 h with h | h
    · exact .inl (h ▸ List.mem_cons_self)
    · rcases mem_erase (by simpa using hi) h with h | h
      · exact .inl (List.mem_cons_of_mem _ h)
      · exact .inr h
theorem encP_inj {p q : List UInt8 × Nat} (h : encP p = encP q) : p = q := by
  obtain ⟨a, b⟩ := p
  obtain ⟨c, d⟩ := q
  simp only [encP, Prod.mk.injEq, Value.string.injEq, Value.int.injEq, true_and] at h
  have := strB_inj.1 h.1
  rw [this, show b = d by omega]
theorem good_of {l : List DField} {M : List (List UInt8 × Nat)} (hM : M = amOf (psN l)) (h : ∀ p ∈ M, goodV (encP p)) : ∀ n ∈ psN l, allowed n ∧ (psN l).count n ≤ 1 := fun n hn => by
  have h1 : 1 ≤ acnt n M := by rw [hM, acnt_am]; exact List.count_pos_iff.2 hn
  have h2 := acnt_has h1
  obtain ⟨m, c, e, ha, hc⟩ := h _ h2
  have e := encP_inj e
  injection e with e1 e2
  subst e1
  rw [hM, acnt_am] at e2
  exact ⟨ha, by omega⟩
theorem not_good {l : List DField} {M : List (List UInt8 × Nat)} (hM : M = amOf (psN l)) {p : List UInt8 × Nat} (hp : p ∈ M) (h : ¬ (allowed p.1 ∧ p.2 ≤ 1)) : ¬ ReqOk l := fun ho => by
  have hok := amOf_ok (psN l)
  rw [← hM] at hok
  have h1 := acnt_mem (n := p.1) (c := p.2) hok.nd hp
  have h2 := hok.one _ hp
  rw [hM, acnt_am] at h1
  have hn : p.1 ∈ psN l := List.count_pos_iff.1 (by omega)
  have := ho.good _ hn
  exact h ⟨this.1, by omega⟩
set_option maxHeartbeats 4000000 in
theorem reqFault_fn (l : List DField) (hl : ∀ y, y ∈ l → wfField y) (hll : l.length * 32 ≤ 140737488355328) : Fn Try.prog 32 [.ro (l.map encField)] (.lit (.int .i64 (reqFlt l))) := by
  have h1 := fldsFault_fn l hl hll
  by_cases hf0 : fldsFlt l = 0
  · obtain ⟨hl8, hfo⟩ := fldsFlt_ok3 hf0
    rw [hf0] at h1
    have e3 : ¬ ReqOk l → reqFlt l = 3 := reqFlt_n hf0
    have e0 : ReqOk l → reqFlt l = 0 := reqFlt_y hf0
    generalize reqFlt l = r at *
    refine fn_of_run (by kernel_rfl) Try.func32 rfl (by kernel_rfl) ?_
    (repeat' first | (refine s_call (h1) (h := ?_)) | (refine p_call (h1) (h := ?_)) | (refine go_ ?_; ((repeat' first | exact True.intro | refine Two.mk ?_ ?_); all_goals intros)) | fail "")
    refine r_for (fun x : Nat × Bool × List (List UInt8 × Nat) => ⟨[(4, .own 0), (5, .lit (.bool x.2.1)), (18, .ro (l.map encField)), (19, .lit (.int .i64 l.length)), (20, .lit (.int .i64 x.1))], [(0, some (.map none (encM x.2.2)))], 1, Try.f32.ntmps⟩)
      (fun x => x.2.2 = amOf (psN (l.take x.1)) ∧ ReqAt l x.1 x.2.1) (fun x => l.length - x.1) (0, false, []) ⟨rfl, reqAt_0 l⟩ less_to ?_
    rintro ⟨k, plain, M⟩ ⟨hM, hx⟩
    dsimp only at hM hx ⊢
    have hk := hx.le
    by_cases hkn : k < l.length
    · have hfo2 := hfo _ (getD_mem hkn)
      have hnl := hfo2.2.1
      have hnl1 := hfo2.1
      have hpsl := psN_len (l.take k)
      have hcl : acnt (l.getD k default).Name (amOf (psN (l.take k))) ≤ 8 := by
        rw [acnt_am]
        have := List.count_le_length (a := (l.getD k default).Name) (l := psN (l.take k))
        rw [List.length_take] at hpsl
        omega
      have hch := fun i hi hc => e3 (not_ch (l := l) (k := k) (i := i) hkn hi hc)
      have hsq := fun h hp => e3 (not_seq (l := l) (k := k) h hkn hp)
      have hpt := psN_t hkn
      have hpf := psN_f hkn
      rw [← hM] at hcl
      (repeat' first | (refine go_ ?_; ((repeat' first | exact True.intro | refine Two.mk ?_ ?_); all_goals intros)) | fail "")
      refine r_for (fun i : Nat => ⟨[(4, .own 0), (5, .lit (.bool plain)), (7, .ptr 1 0 0 0), (8, .lit (.int .i64 i)), (18, .ro (l.map encField)), (19, .lit (.int .i64 l.length)), (20, .lit (.int .i64 k))], [(0, some (.map none (encM M))), (1, some (.box 113 (encField (l.getD k default))))], 2, Try.f32.ntmps⟩)
        (fun i => i ≤ (l.getD k default).Name.length ∧ ∀ j, j < i → chOk ((l.getD k default).Name.getD j default)) (fun i => (l.getD k default).Name.length - i) 0 ⟨Nat.zero_le _, fun j h => by omega⟩ less_to ?_
      rintro i ⟨hi, hci⟩
      by_cases hin : i < (l.getD k default).Name.length
      · have hb := (l.getD k default).Name.getD i default |>.toNat_lt
        have hci2 := hch i hin
        unfold chOk at hci2
        clear hsq hpt hpf
        (repeat' first | (refine go_ ?_; ((repeat' first | exact True.intro | refine Two.mk ?_ ?_); all_goals intros)) | fail "")
        all_goals first
          | (refine ends_ (hr := ?_); rw [hci2 (by omega)])
          | (refine ⟨i + 1, ?_, ?_, ?_⟩; rotate_left 2; (exact lessA_); (focus (omega)); (focus (exact ⟨hin, upto_succ hci (by unfold chOk; omega)⟩)))
          | skip
      · have hil : i = (l.getD k default).Name.length := by omega
        subst hil
        have hcs := chars_all hci
        have nx1 := reqAt_plain hx hkn hcs
        have nx2 : plain = false → isPs (l.getD k default) → ReqAt l (k + 1) false := fun e => by rw [e] at hx; exact reqAt_ps hx hkn hcs
        have hsq2 : plain = true → isPs (l.getD k default) → r = 3 := fun e => by rw [e] at hx; exact hsq hx
        have hlk := look_m (l.getD k default).Name M
        have hput := put_m (l.getD k default).Name M
        by_cases hps : isPs (l.getD k default)
        · have hps2 := hps
          unfold isPs at hps2
          have hpt := hpt hps
          have hsq2 := fun e => hsq2 e hps
          have nx2 := fun e => nx2 e hps
          clear hch hsq hpf nx1 hcs hci
          cases plain
          all_goals (repeat' first | (refine s_look (r := .int .i64 (acnt (l.getD k default).Name M : Int)) ?_ (h := ?_); (focus ((exact hlk)))) | (refine s_insertR (r := encM (inc (l.getD k default).Name M)) ?_ (h := ?_); (focus ((exact hput)))) | (refine goI_ ?_; ((repeat' first | exact True.intro | refine Two.mk ?_ ?_); all_goals intros)) | refine s_i (h := ?_) | refine s_i (hq := q_index_ro rfl rfl rfl (by first | exact lit0 | exact lit1 | exact lit2 | exact lit3 | rfl) (by simp only [List.length_cons, List.length_nil]; omega) rfl rfl rfl rfl) (h := ?_) | refine p_i (h := ?_) | refine p_ih (h := ?_) | refine s_lit (h := ?_) | refine p_lit (h := ?_) | refine p_lit0 (h := ?_) | refine s_lit0 (h := ?_) | refine s_ixa (h := ?_) | refine s_insert (h := ?_) | (refine s_sadd rfl ?_ (h := ?_); (focus (first | omega | (simp only [List.length_append, List.length_map, List.length_cons, List.length_nil, List.length_take, List.length_drop]; omega)))) | (refine p_sadd rfl ?_ (h := ?_); (focus (first | omega | (simp only [List.length_append, List.length_map, List.length_cons, List.length_nil, List.length_take, List.length_drop]; omega)))) | fail "")
          all_goals first
            | (refine ends_ (hr := ?_); rw [hsq2 rfl])
            | (refine ⟨(k + 1, false, inc (l.getD k default).Name M), ?_, ?_, ?_⟩; rotate_left 2; (exact lessA_); (focus (dsimp only; omega)); (focus (exact ⟨by dsimp only; rw [hpt, amOf_snoc, hM], nx2 rfl⟩)))
            | skip
        · have hps2 := hps
          unfold isPs at hps2
          have nx1 := nx1 hps
          have hpf := hpf hps
          clear hch hsq hpt hlk hput nx2 hsq2
          (repeat' first | (refine go_ ?_; ((repeat' first | exact True.intro | refine Two.mk ?_ ?_); all_goals intros)) | fail "")
          all_goals first
            | (refine ⟨(k + 1, true, M), ?_, ?_, ?_⟩; rotate_left 2; (exact lessA_); (focus (dsimp only; omega)); (focus (exact ⟨by dsimp only; rw [hpf, hM], nx1⟩)))
            | skip
    · have hkl : k = l.length := by omega
      subst hkl
      rw [List.take_length] at hM
      have hng := fun p hp h => e3 (not_good (p := p) hM hp h)
      (repeat' first | (refine go_ ?_; ((repeat' first | exact True.intro | refine Two.mk ?_ ?_); all_goals intros)) | fail "")
      refine r_for (fun y : List (Value × Value) × Option (Value × Value) => ⟨[(4, .own 0), (61, .own 1)], [(0, some (.fmap none (encM M))), (1, some (.iter y.1 y.2))], 2, Try.f32.ntmps⟩)
        (fun y => (∀ kv ∈ y.1, kv ∈ encM M) ∧ ∀ kv ∈ encM M, kv ∈ y.1 ∨ goodV kv) (fun y => y.1.length) (encM M, none) ⟨fun kv h => h, fun kv h => .inl h⟩ less_to ?_
      rintro ⟨left, cur⟩ ⟨hl1, hl2⟩
      dsimp only at hl1 hl2 ⊢
      (repeat' first | refine s_nextMap (he := ?_) (h := ?_) | (refine go_ ?_; ((repeat' first | exact True.intro | refine Two.mk ?_ ?_); all_goals intros)) | fail "")
      · intro h0
        subst h0
        have hga := good_of hM (fun p hp => (hl2 (encP p) (List.mem_map.2 ⟨p, hp, rfl⟩)).resolve_left (by simp))
        have q0 := fun h1 h2 => e0 (reqOk_of hx hga h1 h2)
        have q1 := fun h1 : acnt nM (amOf (psN l)) ≠ 1 => e3 (fun h => h1 (reqOk_m h))
        have q2 := fun h1 : acnt nP (amOf (psN l)) ≠ 1 => e3 (fun h => h1 (reqOk_p h))
        rw [← hM] at q0 q1 q2
        have hle : ∀ n, acnt n M = 0 ∨ acnt n M = 1 := fun n => by
          rw [hM, acnt_am]
          by_cases hn : n ∈ psN l
          · have := (hga n hn).2; omega
          · exact .inl (List.count_eq_zero_of_not_mem hn)
        obtain ⟨vm, hvm, hlm⟩ : ∃ vm : Int, (vm = 0 ∧ acnt nM M = 0 ∨ vm = 1 ∧ acnt nM M = 1) ∧ (mlook (.string (strB nM)) (encM M)).getD (.int .i64 0) = .int .i64 vm := ⟨(acnt nM M : Int), by have := hle nM; omega, look_m nM M⟩
        obtain ⟨vp, hvp, hlp⟩ : ∃ vp : Int, (vp = 0 ∧ acnt nP M = 0 ∨ vp = 1 ∧ acnt nP M = 1) ∧ (mlook (.string (strB nP)) (encM M)).getD (.int .i64 0) = .int .i64 vp := ⟨(acnt nP M : Int), by have := hle nP; omega, look_m nP M⟩
        clear hl1 hl2 hng hle
        rcases hvm with ⟨rfl, hvm⟩ | ⟨rfl, hvm⟩ <;> rcases hvp with ⟨rfl, hvp⟩ | ⟨rfl, hvp⟩
        all_goals (repeat' first | refine s_lookF hlm (h := ?_) | refine s_lookF hlp (h := ?_) | (refine go_ ?_; ((repeat' first | exact True.intro | refine Two.mk ?_ ?_); all_goals intros)) | fail "")
        all_goals first
          | (refine ends_ (hr := ?_); rw [q0 (by omega) (by omega)])
          | (refine ends_ (hr := ?_); rw [q1 (by omega)])
          | (refine ends_ (hr := ?_); rw [q2 (by omega)])
          | skip
      · intro i hi
        obtain ⟨p, hp, e⟩ := List.mem_map.1 (hl1 _ (List.getElem_mem hi))
        have hng := hng p hp
        have hmem : ∀ kv ∈ encM M, kv ∈ left.eraseIdx i ∨ kv = encP p ∨ goodV kv := fun kv hkv => by
          rcases hl2 kv hkv with h | h
          · rcases mem_erase hi h with h | h
            · exact .inl h
            · exact .inr (.inl (by rw [h, e]))
          · exact .inr (.inr h)
        have hlen : (left.eraseIdx i).length < left.length := by rw [List.length_eraseIdx, if_pos hi]; omega
        have hl1 : ∀ kv ∈ left.eraseIdx i, kv ∈ encM M := fun kv h => hl1 kv (erase_mem h)
        rw [← e]
        clear e hl2
        generalize left.eraseIdx i = left2 at *
        obtain ⟨n, c⟩ := p
        dsimp only [encP] at *
        by_cases hgd : allowed n ∧ c ≤ 1
        · (repeat' first | (refine go_ ?_; ((repeat' first | exact True.intro | refine Two.mk ?_ ?_); all_goals intros)) | fail "")
          all_goals first
            | (refine ⟨(left2, some (encP (n, c))), ?_, ?_, ?_⟩; rotate_left 2; (exact lessA_); (focus (dsimp only; omega)); (focus (exact ⟨hl1, fun kv hkv => (hmem kv hkv).elim .inl (fun h => .inr (h.elim (fun h => ⟨n, c, h, hgd⟩) id))⟩)))
            | (exfalso; obtain ⟨ha, _⟩ := hgd; rcases ha with ha | ha | ha <;> contradiction)
            | skip
        · have hng := hng hgd
          (repeat' first | (refine go_ ?_; ((repeat' first | exact True.intro | refine Two.mk ?_ ?_); all_goals intros)) | fail "")
          all_goals first
            | (refine ends_ (hr := ?_); rw [hng])
            | (exfalso; apply hgd; refine ⟨?_, by omega⟩; unfold allowed; first | exact .inl (by assumption) | exact .inr (.inl (by assumption)) | exact .inr (.inr (by assumption)))
            | skip
  · have e := reqFlt_e hf0
    rw [e]
    generalize fldsFlt l = r at *
    refine fn_of_run (by kernel_rfl) Try.func32 rfl (by kernel_rfl) ?_
    (repeat' first | (refine s_call (h1) (h := ?_)) | (refine p_call (h1) (h := ?_)) | (refine go_ ?_; ((repeat' first | exact True.intro | refine Two.mk ?_ ?_); all_goals intros)) | fail "")
    all_goals first
      | exact ends_ (hr := rfl)
      | skip
end Go.Proofs.Ythpophgcmgdpjaa
