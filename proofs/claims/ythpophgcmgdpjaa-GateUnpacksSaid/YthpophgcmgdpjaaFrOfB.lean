/-
  The reference's FrameOf: what it answers, but at an Ack. No condition.
-/
import Derived.Test.YthpophgcmgdpjaaGo
import Derived.Test.YthpophgcmgdpjaaFrO
import Derived.Test.YthpophgcmgdpjaaFrDe
set_option linter.unusedVariables false
set_option linter.unusedSimpArgs false
set_option linter.unusedVariables false
namespace Go.Proofs.Ythpophgcmgdpjaa
set_option maxRecDepth 100000
attribute [local irreducible] Run RunL QStep GStep Fn Less PL FnM

/-- a state behind the data too -/
structure GoodR (A : Nat) (z : FS) : Prop where
  k : I64 z.1.Kind
  i : I64 z.1.Id
  o : I64 z.1.Off
  c : I64 z.1.Code
  r : z.1.Ranges = []
  d : z.1.Data.length ≤ 120
  l : z.2.1.length ≤ A
def dataV : Option (List UInt8) → V
  | none => .lit (.slice none 0 0)
  | some d => .ro (d.map encB)
theorem goodR_num {A : Nat} {z : FS} (h : GoodR A z) : GoodR A (sId z) ∧ GoodR A (sOf z) ∧ GoodR A (sCo z) := by
  have f := numR_facts z.2.1 z.2.2
  exact ⟨⟨h.k, I64_num f.2.1, h.o, h.c, h.r, h.d, Nat.le_trans f.1 h.l⟩, ⟨h.k, h.i, I64_num f.2.1, h.c, h.r, h.d, Nat.le_trans f.1 h.l⟩, ⟨h.k, h.i, h.o, I64_num f.2.1, h.r, h.d, Nat.le_trans f.1 h.l⟩⟩
set_option maxHeartbeats 8000000 in
theorem frameOf_fnB (l : List UInt8) (hn : ¬ (numR l 0).1 = 2) (hl : l.length ≤ 1000000000000000) : Fn Try.prog 164 [.lit (.string (strB l))] (encFr (frD l)) := by
  have g1 := num_fnm l 0 hl
  have f1 := numR_facts l 0
  unfold frD
  generalize numR l 0 = r at *
  obtain ⟨n, s, e⟩ := r
  dsimp only at g1 f1 hn ⊢
  have hN : Unit → ¬ n = 2 := fun _ => hn
  clear hn
  unfold frHead
  by_cases he : e = 0
  case neg =>
    rw [if_pos he]
    refine fn_of_run (by kernel_rfl) Try.func164 rfl (by kernel_rfl) ?_
    (repeat' first | refine s_callV [2, 0] (g1) (h := ?_) | (refine go_ ?_; ((repeat' first | exact True.intro | refine Two.mk ?_ ?_); all_goals intros)) | fail "")
    all_goals (exact endwA_)
  subst he
  rw [if_neg (by omega)]
  by_cases h8 : n = 8
  · rw [if_pos h8]
    subst h8
    refine fn_of_run (by kernel_rfl) Try.func164 rfl (by kernel_rfl) ?_
    (repeat' first | refine s_callV [2, 0] (g1) (h := ?_) | (refine go_ ?_; ((repeat' first | exact True.intro | refine Two.mk ?_ ?_); all_goals intros)) | fail "")
    all_goals (exact endwA_)
  rw [if_neg h8]
  refine fn_of_run (by kernel_rfl) Try.func164 rfl (by kernel_rfl) ?_
  (repeat' first | refine s_callV [2, 0] (g1) (h := ?_) | (refine goU_ 7 ?_; ((repeat' first | exact True.intro | refine Two.mk ?_ ?_); all_goals intros)) | fail "")
  refine r_cut (fun x : Int × Bool => ⟨[(1, .ptr 0 0 0 0), (2, .ptr 1 0 0 0), (5, .lit (.int .i64 l.length)), (6, .ptr 2 0 0 0), (7, .clo 188 [.ptr 2 0 0 0, .ptr 0 0 0 0]), (8, .ptr 3 0 0 0)], [(0, some (.box 9 [.lit (.string (strB (s)))])), (1, some (.box 163 [.lit (.int .i64 0), .lit (.int .i64 0), .lit (.int .i64 0), .lit (.bool false), .lit (.int .i64 0), .lit (.slice none 0 0), .lit (.slice none 0 0)])), (2, some (.box 26 [.lit (.int .i64 0)])), (3, some (.box 163 [.lit (.int .i64 x.1), .lit (.int .i64 0), .lit (.int .i64 0), .lit (.bool x.2), .lit (.int .i64 0), .lit (.slice none 0 0), .lit (.slice none 0 0)]))], 4, Try.f164.ntmps⟩)
    (fun x => x = ((if n = 14 ∨ n = 15 then (8 : Int) else (n : Int)), decide (n = 15))) ?_ ?_
  · by_cases h14 : n = 14
    · subst h14
      (repeat' first | (refine go_ ?_; ((repeat' first | exact True.intro | refine Two.mk ?_ ?_); all_goals intros)) | fail "")
      all_goals first
        | (refine ⟨((8 : Int), false), ?_, ?_⟩; rotate_left 1; (exact lessA_); (focus (rfl)))
        | skip
    · by_cases h15 : n = 15
      · subst h15
        (repeat' first | (refine go_ ?_; ((repeat' first | exact True.intro | refine Two.mk ?_ ?_); all_goals intros)) | fail "")
        all_goals first
          | (refine ⟨((8 : Int), true), ?_, ?_⟩; rotate_left 1; (exact lessA_); (focus (rfl)))
          | skip
      · rw [if_neg (by omega), decide_eq_false h15]
        (repeat' first | (refine go_ ?_; ((repeat' first | exact True.intro | refine Two.mk ?_ ?_); all_goals intros)) | fail "")
        all_goals first
          | (refine ⟨((n : Int), false), ?_, ?_⟩; rotate_left 1; (exact lessA_); (focus (rfl)))
          | skip
  rintro ⟨K, fin⟩ hK
  rw [show (if n = 14 ∨ n = 15 then (8 : Int) else (n : Int)) = K from (congrArg Prod.fst hK).symm, show decide (n = 15) = fin from (congrArg Prod.snd hK).symm]
  have hKi : 0 ≤ K ∧ K ≤ 4611686018427387903 := by
    have := congrArg Prod.fst hK
    dsimp only at this
    split at this <;> omega
  have hKK : ¬ K = 2 := by
    have h := congrArg Prod.fst hK
    have hn := hN ()
    dsimp only at h
    split at h <;> omega
  clear hK hN g1
  dsimp only
  have hs := f1.1
  clear f1 h8
  unfold frBody
  have h2 := has_fn K
  by_cases hko : kOk K = false
  · rw [if_pos hko]
    rw [hko] at h2
    (repeat' first | (refine s_call (h2) (h := ?_)) | (refine p_call (h2) (h := ?_)) | (refine go_ ?_; ((repeat' first | exact True.intro | refine Two.mk ?_ ?_); all_goals intros)) | fail "")
    all_goals (exact endwA_)
  rw [if_neg hko]
  have hk1 : kOk K = true := by simpa using hko
  rw [hk1] at h2
  clear hko
  have hK2 := hKK
  rw [if_neg hK2]
  rw [← fold_seq hk1 hK2]
  have hnr := no_r hK2
  have hsl := hasB_len K
  generalize hasB K = w at *
  have q0 : GoodR l.length (⟨K, 0, 0, fin, 0, [], []⟩, s, 0) := ⟨by unfold I64; dsimp only; omega, by unfold I64; dsimp only; omega, by unfold I64; dsimp only; omega, by unfold I64; dsimp only; omega, rfl, by simp, hs⟩
  generalize hR : frFin l.length (foldR w (⟨K, 0, 0, fin, 0, [], []⟩, s, 0)) = R
  (repeat' first | (refine s_call (h2) (h := ?_)) | (refine p_call (h2) (h := ?_)) | (refine go_ ?_; ((repeat' first | exact True.intro | refine Two.mk ?_ ?_); all_goals intros)) | fail "")
  clear h2
  refine r_for (fun x : Nat × FS × Option (List UInt8) => ⟨[(1, .ptr 0 0 0 0), (2, .ptr 1 0 0 0), (5, .lit (.int .i64 l.length)), (6, .ptr 2 0 0 0), (7, .clo 188 [.ptr 2 0 0 0, .ptr 0 0 0 0]), (8, .ptr 3 0 0 0), (9, .lit (.string (strB w))), (11, .lit (.int .i64 x.1))], [(0, some (.box 9 [.lit (.string (strB (x.2.1.2.1)))])), (1, some (.box 163 [.lit (.int .i64 0), .lit (.int .i64 0), .lit (.int .i64 0), .lit (.bool false), .lit (.int .i64 0), .lit (.slice none 0 0), .lit (.slice none 0 0)])), (2, some (.box 26 [.lit (.int .i64 x.2.1.2.2)])), (3, some (.box 163 [.lit (.int .i64 x.2.1.1.Kind), .lit (.int .i64 x.2.1.1.Id), .lit (.int .i64 x.2.1.1.Off), .lit (.bool x.2.1.1.Fin), .lit (.int .i64 x.2.1.1.Code), .lit (.slice none 0 0), dataV x.2.2]))], 4, Try.f164.ntmps⟩)
    (fun x => x.1 ≤ w.length ∧ frFin l.length (foldR (w.drop x.1) x.2.1) = R ∧ GoodR l.length x.2.1 ∧ (match x.2.2 with | none => x.2.1.1.Data = [] | some d => x.2.1.1.Data = d)) (fun x => w.length - x.1) (0, (⟨K, 0, 0, fin, 0, [], []⟩, s, 0), none) ⟨Nat.zero_le _, hR, q0, rfl⟩ (by (exact lessA_)) ?_
  rintro ⟨j, z, d⟩ ⟨hj, hz, q, hd⟩
  dsimp only at hj hz q hd ⊢
  rcases d with _ | dd
  · dsimp only at hd
    dsimp only [dataV]
    have hzl := q.l
    by_cases he : z.2.2 = 0
    · by_cases hjw : j < w.length
      · have hne := hnr j hjw
        rw [drop_cons hjw, show foldR (w.getD j default :: w.drop (j + 1)) z = foldR (w.drop (j + 1)) (stR (stL (w.getD j default)) z) from rfl, show stR (stL (w.getD j default)) z = stL (w.getD j default) z from if_neg (by omega)] at hz
        have g := num_fnm z.2.1 z.2.2 (by omega)
        have gr := goodR_num q
        generalize hc : w.getD j default = c at hz hne
        have hcl := c.toNat_lt
        by_cases c1 : (c.toNat : Int) = 105
        · rw [show stL c z = sId z from if_pos c1] at hz
          subst hc
          (repeat' first | refine s_callV [2, 0] (g) (h := ?_) | (refine go_ ?_; ((repeat' first | exact True.intro | refine Two.mk ?_ ?_); all_goals intros)) | fail "")
          all_goals first
            | (refine ⟨(j + 1, sId z, none), ?_, ?_, ?_⟩; rotate_left 2; (exact lessA_); (focus (dsimp only; omega)); (focus (exact ⟨hjw, hz, gr.1, hd⟩)))
            | skip
        by_cases c2 : (c.toNat : Int) = 111
        · rw [show stL c z = sOf z by unfold stL; rw [if_neg c1, if_pos c2]] at hz
          subst hc
          (repeat' first | refine s_callV [2, 0] (g) (h := ?_) | (refine go_ ?_; ((repeat' first | exact True.intro | refine Two.mk ?_ ?_); all_goals intros)) | fail "")
          all_goals first
            | (refine ⟨(j + 1, sOf z, none), ?_, ?_, ?_⟩; rotate_left 2; (exact lessA_); (focus (dsimp only; omega)); (focus (exact ⟨hjw, hz, gr.2.1, hd⟩)))
            | skip
        by_cases c3 : (c.toNat : Int) = 99
        · rw [show stL c z = sCo z by unfold stL; rw [if_neg c1, if_neg c2, if_pos c3]] at hz
          subst hc
          (repeat' first | refine s_callV [2, 0] (g) (h := ?_) | (refine go_ ?_; ((repeat' first | exact True.intro | refine Two.mk ?_ ?_); all_goals intros)) | fail "")
          all_goals first
            | (refine ⟨(j + 1, sCo z, none), ?_, ?_, ?_⟩; rotate_left 2; (exact lessA_); (focus (dsimp only; omega)); (focus (exact ⟨hjw, hz, gr.2.2, hd⟩)))
            | skip
        by_cases c4 : (c.toNat : Int) = 119
        · rw [show stL c z = sWo z by unfold stL; rw [if_neg c1, if_neg c2, if_neg c3, if_pos c4]] at hz
          subst hc
          by_cases h8 : z.2.1.length < 8
          · rw [fin_err (by rw [wo_short he h8]; decide), wo_short he h8] at hz
            (repeat' first | (refine go_ ?_; ((repeat' first | exact True.intro | refine Two.mk ?_ ?_); all_goals intros)) | fail "")
            all_goals first
              | (refine ⟨(j + 1, (z.1, z.2.1, 4), none), ?_, ?_, ?_⟩; rotate_left 2; (exact lessA_); (focus (dsimp only; omega)); (focus (exact ⟨hjw, (fin_err (z := (z.1, z.2.1, 4)) (by dsimp only; omega)).trans hz, ⟨q.k, q.i, q.o, q.c, q.r, q.d, q.l⟩, hd⟩)))
              | skip
          · rw [wo_ok he h8] at hz
            have h8l : (z.2.1.take 8).length = 8 := by rw [List.length_take]; omega
            have hn8 := num8_fn (z.2.1.take 8) (by omega)
            have t0 : (z.2.1.take 8).drop 0 = z.2.1.take 8 := List.drop_zero
            have t1 : (z.2.1.take z.2.1.length).drop 8 = z.2.1.drop 8 := by rw [List.take_length]
            (repeat' first | (refine s_slice (r := z.2.1.take 8) (0) (8) ?_ ?_ ?_ ?_ ?_ (h := ?_); (focus (first | rfl | (simp only [Option.getD_some, Option.getD_none, List.length_map]; omega))); (focus (first | rfl | (simp only [Option.getD_some, Option.getD_none, List.length_map]; omega))); (focus omega); (focus omega); (focus (first | with_reducible rfl | assumption | (simp; done)))) | (refine p_slice (r := z.2.1.take 8) (0) (8) ?_ ?_ ?_ ?_ ?_ (h := ?_); (focus (first | rfl | (simp only [Option.getD_some, Option.getD_none, List.length_map]; omega))); (focus (first | rfl | (simp only [Option.getD_some, Option.getD_none, List.length_map]; omega))); (focus omega); (focus omega); (focus (first | with_reducible rfl | assumption | (simp; done)))) | (refine s_slice_str (r := z.2.1.take 8) (0) (8) ?_ ?_ ?_ ?_ ?_ (h := ?_); (focus (first | rfl | (simp only [Option.getD_some, Option.getD_none, List.length_map]; omega))); (focus (first | rfl | (simp only [Option.getD_some, Option.getD_none, List.length_map]; omega))); (focus omega); (focus omega); (focus (first | with_reducible rfl | assumption | (simp; done)))) | (refine p_slice_str (r := z.2.1.take 8) (0) (8) ?_ ?_ ?_ ?_ ?_ (h := ?_); (focus (first | rfl | (simp only [Option.getD_some, Option.getD_none, List.length_map]; omega))); (focus (first | rfl | (simp only [Option.getD_some, Option.getD_none, List.length_map]; omega))); (focus omega); (focus omega); (focus (first | with_reducible rfl | assumption | (simp; done)))) | (refine s_sliceO (r := z.2.1.take 8) (0) (8) ?_ ?_ ?_ ?_ ?_ (h := ?_); (focus (first | rfl | (simp only [Option.getD_some, Option.getD_none, List.length_map]; omega))); (focus (first | rfl | (simp only [Option.getD_some, Option.getD_none, List.length_map]; omega))); (focus omega); (focus omega); (focus (first | with_reducible rfl | assumption | (simp; done)))) | (refine s_sliceM (r := z.2.1.take 8) (0) (8) ?_ ?_ ?_ ?_ ?_ (h := ?_); (focus (first | rfl | (simp only [Option.getD_some, Option.getD_none, List.length_map]; omega))); (focus (first | rfl | (simp only [Option.getD_some, Option.getD_none, List.length_map]; omega))); (focus omega); (focus omega); (focus (first | with_reducible rfl | assumption | (simp; done)))) | (refine s_call (hn8) (h := ?_)) | (refine p_call (hn8) (h := ?_)) | (refine s_slice (r := z.2.1.drop 8) (8) (z.2.1.length) ?_ ?_ ?_ ?_ ?_ (h := ?_); (focus (first | rfl | (simp only [Option.getD_some, Option.getD_none, List.length_map]; omega))); (focus (first | rfl | (simp only [Option.getD_some, Option.getD_none, List.length_map]; omega))); (focus omega); (focus omega); (focus (first | with_reducible rfl | assumption | (simp; done)))) | (refine p_slice (r := z.2.1.drop 8) (8) (z.2.1.length) ?_ ?_ ?_ ?_ ?_ (h := ?_); (focus (first | rfl | (simp only [Option.getD_some, Option.getD_none, List.length_map]; omega))); (focus (first | rfl | (simp only [Option.getD_some, Option.getD_none, List.length_map]; omega))); (focus omega); (focus omega); (focus (first | with_reducible rfl | assumption | (simp; done)))) | (refine s_slice_str (r := z.2.1.drop 8) (8) (z.2.1.length) ?_ ?_ ?_ ?_ ?_ (h := ?_); (focus (first | rfl | (simp only [Option.getD_some, Option.getD_none, List.length_map]; omega))); (focus (first | rfl | (simp only [Option.getD_some, Option.getD_none, List.length_map]; omega))); (focus omega); (focus omega); (focus (first | with_reducible rfl | assumption | (simp; done)))) | (refine p_slice_str (r := z.2.1.drop 8) (8) (z.2.1.length) ?_ ?_ ?_ ?_ ?_ (h := ?_); (focus (first | rfl | (simp only [Option.getD_some, Option.getD_none, List.length_map]; omega))); (focus (first | rfl | (simp only [Option.getD_some, Option.getD_none, List.length_map]; omega))); (focus omega); (focus omega); (focus (first | with_reducible rfl | assumption | (simp; done)))) | (refine s_sliceO (r := z.2.1.drop 8) (8) (z.2.1.length) ?_ ?_ ?_ ?_ ?_ (h := ?_); (focus (first | rfl | (simp only [Option.getD_some, Option.getD_none, List.length_map]; omega))); (focus (first | rfl | (simp only [Option.getD_some, Option.getD_none, List.length_map]; omega))); (focus omega); (focus omega); (focus (first | with_reducible rfl | assumption | (simp; done)))) | (refine s_sliceM (r := z.2.1.drop 8) (8) (z.2.1.length) ?_ ?_ ?_ ?_ ?_ (h := ?_); (focus (first | rfl | (simp only [Option.getD_some, Option.getD_none, List.length_map]; omega))); (focus (first | rfl | (simp only [Option.getD_some, Option.getD_none, List.length_map]; omega))); (focus omega); (focus omega); (focus (first | with_reducible rfl | assumption | (simp; done)))) | (refine go_ ?_; ((repeat' first | exact True.intro | refine Two.mk ?_ ?_); all_goals intros)) | fail "")
            all_goals first
              | (refine ⟨(j + 1, ({ z.1 with Code := IntKind.i64.wrap ((numG 0 (z.2.1.take 8) : Nat) : Int) }, z.2.1.drop 8, z.2.2), none), ?_, ?_, ?_⟩; rotate_left 2; (exact lessA_); (focus (dsimp only; omega)); (focus (exact ⟨hjw, hz, ⟨q.k, q.i, q.o, by unfold I64; dsimp only; rw [IntKind.wrap_i64]; omega, q.r, q.d, by dsimp only; rw [List.length_drop]; omega⟩, hd⟩)))
              | skip
        by_cases c5 : (c.toNat : Int) = 100
        · rw [show stL c z = sDa z by unfold stL; rw [if_neg c1, if_neg c2, if_neg c3, if_neg c4, if_pos c5]] at hz
          subst hc
          have f := numR_facts z.2.1 z.2.2
          have a1 := @da_err z
          have a2 := @da_big z
          have a3 := @da_short z
          have a4 := @da_ok z
          generalize numR z.2.1 z.2.2 = r at *
          obtain ⟨n4, s4, e4⟩ := r
          dsimp only at g f a1 a2 a3 a4
          by_cases he4 : e4 = 0
          · by_cases hb : 120 < n4
            · rw [fin_err (by rw [a2 hb]; decide), a2 hb] at hz
              (repeat' first | refine s_callV [2, 0] (g) (h := ?_) | (refine go_ ?_; ((repeat' first | exact True.intro | refine Two.mk ?_ ?_); all_goals intros)) | fail "")
              all_goals first
                | (refine ⟨(j + 1, (z.1, s4, 1), none), ?_, ?_, ?_⟩; rotate_left 2; (exact lessA_); (focus (dsimp only; omega)); (focus (exact ⟨hjw, (fin_err (z := (z.1, s4, 1)) (by dsimp only; omega)).trans hz, ⟨q.k, q.i, q.o, q.c, q.r, q.d, by dsimp only; omega⟩, hd⟩)))
                | skip
            · by_cases hsh : s4.length < n4
              · rw [fin_err (by rw [a3 hb he4 hsh]; decide), a3 hb he4 hsh] at hz
                (repeat' first | refine s_callV [2, 0] (g) (h := ?_) | (refine go_ ?_; ((repeat' first | exact True.intro | refine Two.mk ?_ ?_); all_goals intros)) | fail "")
                all_goals first
                  | (refine ⟨(j + 1, (z.1, s4, 4), none), ?_, ?_, ?_⟩; rotate_left 2; (exact lessA_); (focus (dsimp only; omega)); (focus (exact ⟨hjw, (fin_err (z := (z.1, s4, 4)) (by dsimp only; omega)).trans hz, ⟨q.k, q.i, q.o, q.c, q.r, q.d, by dsimp only; omega⟩, hd⟩)))
                  | skip
              · rw [a4 hb he4 hsh] at hz
                have t0 : (s4.take n4).drop 0 = s4.take n4 := List.drop_zero
                have t1 : (s4.take s4.length).drop n4 = s4.drop n4 := by rw [List.take_length]
                have tl : (s4.take n4).length = n4 := by rw [List.length_take]; omega
                (repeat' first | refine s_callV [2, 0] (g) (h := ?_) | (refine s_slice (r := s4.take n4) (0) (n4) ?_ ?_ ?_ ?_ ?_ (h := ?_); (focus (first | rfl | (simp only [Option.getD_some, Option.getD_none, List.length_map]; omega))); (focus (first | rfl | (simp only [Option.getD_some, Option.getD_none, List.length_map]; omega))); (focus omega); (focus omega); (focus (first | with_reducible rfl | assumption | (simp; done)))) | (refine p_slice (r := s4.take n4) (0) (n4) ?_ ?_ ?_ ?_ ?_ (h := ?_); (focus (first | rfl | (simp only [Option.getD_some, Option.getD_none, List.length_map]; omega))); (focus (first | rfl | (simp only [Option.getD_some, Option.getD_none, List.length_map]; omega))); (focus omega); (focus omega); (focus (first | with_reducible rfl | assumption | (simp; done)))) | (refine s_slice_str (r := s4.take n4) (0) (n4) ?_ ?_ ?_ ?_ ?_ (h := ?_); (focus (first | rfl | (simp only [Option.getD_some, Option.getD_none, List.length_map]; omega))); (focus (first | rfl | (simp only [Option.getD_some, Option.getD_none, List.length_map]; omega))); (focus omega); (focus omega); (focus (first | with_reducible rfl | assumption | (simp; done)))) | (refine p_slice_str (r := s4.take n4) (0) (n4) ?_ ?_ ?_ ?_ ?_ (h := ?_); (focus (first | rfl | (simp only [Option.getD_some, Option.getD_none, List.length_map]; omega))); (focus (first | rfl | (simp only [Option.getD_some, Option.getD_none, List.length_map]; omega))); (focus omega); (focus omega); (focus (first | with_reducible rfl | assumption | (simp; done)))) | (refine s_sliceO (r := s4.take n4) (0) (n4) ?_ ?_ ?_ ?_ ?_ (h := ?_); (focus (first | rfl | (simp only [Option.getD_some, Option.getD_none, List.length_map]; omega))); (focus (first | rfl | (simp only [Option.getD_some, Option.getD_none, List.length_map]; omega))); (focus omega); (focus omega); (focus (first | with_reducible rfl | assumption | (simp; done)))) | (refine s_sliceM (r := s4.take n4) (0) (n4) ?_ ?_ ?_ ?_ ?_ (h := ?_); (focus (first | rfl | (simp only [Option.getD_some, Option.getD_none, List.length_map]; omega))); (focus (first | rfl | (simp only [Option.getD_some, Option.getD_none, List.length_map]; omega))); (focus omega); (focus omega); (focus (first | with_reducible rfl | assumption | (simp; done)))) | (refine s_slice (r := s4.drop n4) (n4) (s4.length) ?_ ?_ ?_ ?_ ?_ (h := ?_); (focus (first | rfl | (simp only [Option.getD_some, Option.getD_none, List.length_map]; omega))); (focus (first | rfl | (simp only [Option.getD_some, Option.getD_none, List.length_map]; omega))); (focus omega); (focus omega); (focus (first | with_reducible rfl | assumption | (simp; done)))) | (refine p_slice (r := s4.drop n4) (n4) (s4.length) ?_ ?_ ?_ ?_ ?_ (h := ?_); (focus (first | rfl | (simp only [Option.getD_some, Option.getD_none, List.length_map]; omega))); (focus (first | rfl | (simp only [Option.getD_some, Option.getD_none, List.length_map]; omega))); (focus omega); (focus omega); (focus (first | with_reducible rfl | assumption | (simp; done)))) | (refine s_slice_str (r := s4.drop n4) (n4) (s4.length) ?_ ?_ ?_ ?_ ?_ (h := ?_); (focus (first | rfl | (simp only [Option.getD_some, Option.getD_none, List.length_map]; omega))); (focus (first | rfl | (simp only [Option.getD_some, Option.getD_none, List.length_map]; omega))); (focus omega); (focus omega); (focus (first | with_reducible rfl | assumption | (simp; done)))) | (refine p_slice_str (r := s4.drop n4) (n4) (s4.length) ?_ ?_ ?_ ?_ ?_ (h := ?_); (focus (first | rfl | (simp only [Option.getD_some, Option.getD_none, List.length_map]; omega))); (focus (first | rfl | (simp only [Option.getD_some, Option.getD_none, List.length_map]; omega))); (focus omega); (focus omega); (focus (first | with_reducible rfl | assumption | (simp; done)))) | (refine s_sliceO (r := s4.drop n4) (n4) (s4.length) ?_ ?_ ?_ ?_ ?_ (h := ?_); (focus (first | rfl | (simp only [Option.getD_some, Option.getD_none, List.length_map]; omega))); (focus (first | rfl | (simp only [Option.getD_some, Option.getD_none, List.length_map]; omega))); (focus omega); (focus omega); (focus (first | with_reducible rfl | assumption | (simp; done)))) | (refine s_sliceM (r := s4.drop n4) (n4) (s4.length) ?_ ?_ ?_ ?_ ?_ (h := ?_); (focus (first | rfl | (simp only [Option.getD_some, Option.getD_none, List.length_map]; omega))); (focus (first | rfl | (simp only [Option.getD_some, Option.getD_none, List.length_map]; omega))); (focus omega); (focus omega); (focus (first | with_reducible rfl | assumption | (simp; done)))) | (refine go_ ?_; ((repeat' first | exact True.intro | refine Two.mk ?_ ?_); all_goals intros)) | fail "")
                all_goals first
                  | (refine ⟨(j + 1, ({ z.1 with Data := s4.take n4 }, s4.drop n4, e4), some (s4.take n4)), ?_, ?_, ?_⟩; rotate_left 2; (exact lessA_); (focus (dsimp only; omega)); (focus (exact ⟨hjw, hz, ⟨q.k, q.i, q.o, q.c, q.r, by dsimp only; omega, by dsimp only; rw [List.length_drop]; omega⟩, rfl⟩)))
                  | skip
          · rw [fin_err (by rw [a1 he4]; exact he4), a1 he4] at hz
            (repeat' first | refine s_callV [2, 0] (g) (h := ?_) | (refine go_ ?_; ((repeat' first | exact True.intro | refine Two.mk ?_ ?_); all_goals intros)) | fail "")
            all_goals first
              | (refine ⟨(j + 1, (z.1, s4, e4), none), ?_, ?_, ?_⟩; rotate_left 2; (exact lessA_); (focus (dsimp only; omega)); (focus (exact ⟨hjw, (fin_err (z := (z.1, s4, e4)) he4).trans hz, ⟨q.k, q.i, q.o, q.c, q.r, q.d, by dsimp only; omega⟩, hd⟩)))
              | skip
        rw [show stL c z = z by unfold stL; rw [if_neg c1, if_neg c2, if_neg c3, if_neg c4, if_neg c5]] at hz
        subst hc
        (repeat' first | (refine go_ ?_; ((repeat' first | exact True.intro | refine Two.mk ?_ ?_); all_goals intros)) | fail "")
        all_goals first
          | (refine ⟨(j + 1, z, none), ?_, ?_, ?_⟩; rotate_left 2; (exact lessA_); (focus (dsimp only; omega)); (focus (exact ⟨hjw, hz, q, hd⟩)))
          | skip
      · rw [List.drop_of_length_le (by omega), show foldR [] z = z from rfl] at hz
        have hc := frameFault_fn z.1 ⟨q.k, q.i, q.o, q.c, by rw [q.r]; simp, by rw [q.r]; intro y hy; (cases hy), by have := q.d; omega⟩
        have he1 : encFrame z.1 = [.lit (.int .i64 z.1.Kind), .lit (.int .i64 z.1.Id), .lit (.int .i64 z.1.Off), .lit (.bool z.1.Fin), .lit (.int .i64 z.1.Code), .ro [], .ro (z.1.Data.map encB)] := by
          unfold encFrame; rw [q.r]; rfl
        rw [he1] at hc
        rw [← hz]
        unfold frFin
        rw [if_neg (by omega)]
        clear hz hR
        generalize hq : frFlt z.1 = f at *
        rw [hd] at he1 hc
        by_cases hf : f = 0
        · rw [if_neg (by omega)]
          unfold encFr
          dsimp only
          rw [he1]
          subst hf
          (repeat' first | (refine s_call (hc) (h := ?_)) | (refine p_call (hc) (h := ?_)) | (refine go_ ?_; ((repeat' first | exact True.intro | refine Two.mk ?_ ?_); all_goals intros)) | fail "")
          all_goals first
            | (exact endwA_)
            | skip
        · rw [if_pos hf]
          (repeat' first | (refine s_call (hc) (h := ?_)) | (refine p_call (hc) (h := ?_)) | (refine go_ ?_; ((repeat' first | exact True.intro | refine Two.mk ?_ ?_); all_goals intros)) | fail "")
          all_goals first
            | (exact endwA_)
            | skip
    · rw [fin_err he] at hz
      rw [← hz]
      clear hz hR
      (repeat' first | (refine go_ ?_; ((repeat' first | exact True.intro | refine Two.mk ?_ ?_); all_goals intros)) | fail "")
      all_goals first
        | (exact endwA_)
        | skip
  · dsimp only at hd
    dsimp only [dataV]
    have hzl := q.l
    by_cases he : z.2.2 = 0
    · by_cases hjw : j < w.length
      · have hne := hnr j hjw
        rw [drop_cons hjw, show foldR (w.getD j default :: w.drop (j + 1)) z = foldR (w.drop (j + 1)) (stR (stL (w.getD j default)) z) from rfl, show stR (stL (w.getD j default)) z = stL (w.getD j default) z from if_neg (by omega)] at hz
        have g := num_fnm z.2.1 z.2.2 (by omega)
        have gr := goodR_num q
        generalize hc : w.getD j default = c at hz hne
        have hcl := c.toNat_lt
        by_cases c1 : (c.toNat : Int) = 105
        · rw [show stL c z = sId z from if_pos c1] at hz
          subst hc
          (repeat' first | refine s_callV [2, 0] (g) (h := ?_) | (refine go_ ?_; ((repeat' first | exact True.intro | refine Two.mk ?_ ?_); all_goals intros)) | fail "")
          all_goals first
            | (refine ⟨(j + 1, sId z, some dd), ?_, ?_, ?_⟩; rotate_left 2; (exact lessA_); (focus (dsimp only; omega)); (focus (exact ⟨hjw, hz, gr.1, hd⟩)))
            | skip
        by_cases c2 : (c.toNat : Int) = 111
        · rw [show stL c z = sOf z by unfold stL; rw [if_neg c1, if_pos c2]] at hz
          subst hc
          (repeat' first | refine s_callV [2, 0] (g) (h := ?_) | (refine go_ ?_; ((repeat' first | exact True.intro | refine Two.mk ?_ ?_); all_goals intros)) | fail "")
          all_goals first
            | (refine ⟨(j + 1, sOf z, some dd), ?_, ?_, ?_⟩; rotate_left 2; (exact lessA_); (focus (dsimp only; omega)); (focus (exact ⟨hjw, hz, gr.2.1, hd⟩)))
            | skip
        by_cases c3 : (c.toNat : Int) = 99
        · rw [show stL c z = sCo z by unfold stL; rw [if_neg c1, if_neg c2, if_pos c3]] at hz
          subst hc
          (repeat' first | refine s_callV [2, 0] (g) (h := ?_) | (refine go_ ?_; ((repeat' first | exact True.intro | refine Two.mk ?_ ?_); all_goals intros)) | fail "")
          all_goals first
            | (refine ⟨(j + 1, sCo z, some dd), ?_, ?_, ?_⟩; rotate_left 2; (exact lessA_); (focus (dsimp only; omega)); (focus (exact ⟨hjw, hz, gr.2.2, hd⟩)))
            | skip
        by_cases c4 : (c.toNat : Int) = 119
        · rw [show stL c z = sWo z by unfold stL; rw [if_neg c1, if_neg c2, if_neg c3, if_pos c4]] at hz
          subst hc
          by_cases h8 : z.2.1.length < 8
          · rw [fin_err (by rw [wo_short he h8]; decide), wo_short he h8] at hz
            (repeat' first | (refine go_ ?_; ((repeat' first | exact True.intro | refine Two.mk ?_ ?_); all_goals intros)) | fail "")
            all_goals first
              | (refine ⟨(j + 1, (z.1, z.2.1, 4), some dd), ?_, ?_, ?_⟩; rotate_left 2; (exact lessA_); (focus (dsimp only; omega)); (focus (exact ⟨hjw, (fin_err (z := (z.1, z.2.1, 4)) (by dsimp only; omega)).trans hz, ⟨q.k, q.i, q.o, q.c, q.r, q.d, q.l⟩, hd⟩)))
              | skip
          · rw [wo_ok he h8] at hz
            have h8l : (z.2.1.take 8).length = 8 := by rw [List.length_take]; omega
            have hn8 := num8_fn (z.2.1.take 8) (by omega)
            have t0 : (z.2.1.take 8).drop 0 = z.2.1.take 8 := List.drop_zero
            have t1 : (z.2.1.take z.2.1.length).drop 8 = z.2.1.drop 8 := by rw [List.take_length]
            (repeat' first | (refine s_slice (r := z.2.1.take 8) (0) (8) ?_ ?_ ?_ ?_ ?_ (h := ?_); (focus (first | rfl | (simp only [Option.getD_some, Option.getD_none, List.length_map]; omega))); (focus (first | rfl | (simp only [Option.getD_some, Option.getD_none, List.length_map]; omega))); (focus omega); (focus omega); (focus (first | with_reducible rfl | assumption | (simp; done)))) | (refine p_slice (r := z.2.1.take 8) (0) (8) ?_ ?_ ?_ ?_ ?_ (h := ?_); (focus (first | rfl | (simp only [Option.getD_some, Option.getD_none, List.length_map]; omega))); (focus (first | rfl | (simp only [Option.getD_some, Option.getD_none, List.length_map]; omega))); (focus omega); (focus omega); (focus (first | with_reducible rfl | assumption | (simp; done)))) | (refine s_slice_str (r := z.2.1.take 8) (0) (8) ?_ ?_ ?_ ?_ ?_ (h := ?_); (focus (first | rfl | (simp only [Option.getD_some, Option.getD_none, List.length_map]; omega))); (focus (first | rfl | (simp only [Option.getD_some, Option.getD_none, List.length_map]; omega))); (focus omega); (focus omega); (focus (first | with_reducible rfl | assumption | (simp; done)))) | (refine p_slice_str (r := z.2.1.take 8) (0) (8) ?_ ?_ ?_ ?_ ?_ (h := ?_); (focus (first | rfl | (simp only [Option.getD_some, Option.getD_none, List.length_map]; omega))); (focus (first | rfl | (simp only [Option.getD_some, Option.getD_none, List.length_map]; omega))); (focus omega); (focus omega); (focus (first | with_reducible rfl | assumption | (simp; done)))) | (refine s_sliceO (r := z.2.1.take 8) (0) (8) ?_ ?_ ?_ ?_ ?_ (h := ?_); (focus (first | rfl | (simp only [Option.getD_some, Option.getD_none, List.length_map]; omega))); (focus (first | rfl | (simp only [Option.getD_some, Option.getD_none, List.length_map]; omega))); (focus omega); (focus omega); (focus (first | with_reducible rfl | assumption | (simp; done)))) | (refine s_sliceM (r := z.2.1.take 8) (0) (8) ?_ ?_ ?_ ?_ ?_ (h := ?_); (focus (first | rfl | (simp only [Option.getD_some, Option.getD_none, List.length_map]; omega))); (focus (first | rfl | (simp only [Option.getD_some, Option.getD_none, List.length_map]; omega))); (focus omega); (focus omega); (focus (first | with_reducible rfl | assumption | (simp; done)))) | (refine s_call (hn8) (h := ?_)) | (refine p_call (hn8) (h := ?_)) | (refine s_slice (r := z.2.1.drop 8) (8) (z.2.1.length) ?_ ?_ ?_ ?_ ?_ (h := ?_); (focus (first | rfl | (simp only [Option.getD_some, Option.getD_none, List.length_map]; omega))); (focus (first | rfl | (simp only [Option.getD_some, Option.getD_none, List.length_map]; omega))); (focus omega); (focus omega); (focus (first | with_reducible rfl | assumption | (simp; done)))) | (refine p_slice (r := z.2.1.drop 8) (8) (z.2.1.length) ?_ ?_ ?_ ?_ ?_ (h := ?_); (focus (first | rfl | (simp only [Option.getD_some, Option.getD_none, List.length_map]; omega))); (focus (first | rfl | (simp only [Option.getD_some, Option.getD_none, List.length_map]; omega))); (focus omega); (focus omega); (focus (first | with_reducible rfl | assumption | (simp; done)))) | (refine s_slice_str (r := z.2.1.drop 8) (8) (z.2.1.length) ?_ ?_ ?_ ?_ ?_ (h := ?_); (focus (first | rfl | (simp only [Option.getD_some, Option.getD_none, List.length_map]; omega))); (focus (first | rfl | (simp only [Option.getD_some, Option.getD_none, List.length_map]; omega))); (focus omega); (focus omega); (focus (first | with_reducible rfl | assumption | (simp; done)))) | (refine p_slice_str (r := z.2.1.drop 8) (8) (z.2.1.length) ?_ ?_ ?_ ?_ ?_ (h := ?_); (focus (first | rfl | (simp only [Option.getD_some, Option.getD_none, List.length_map]; omega))); (focus (first | rfl | (simp only [Option.getD_some, Option.getD_none, List.length_map]; omega))); (focus omega); (focus omega); (focus (first | with_reducible rfl | assumption | (simp; done)))) | (refine s_sliceO (r := z.2.1.drop 8) (8) (z.2.1.length) ?_ ?_ ?_ ?_ ?_ (h := ?_); (focus (first | rfl | (simp only [Option.getD_some, Option.getD_none, List.length_map]; omega))); (focus (first | rfl | (simp only [Option.getD_some, Option.getD_none, List.length_map]; omega))); (focus omega); (focus omega); (focus (first | with_reducible rfl | assumption | (simp; done)))) | (refine s_sliceM (r := z.2.1.drop 8) (8) (z.2.1.length) ?_ ?_ ?_ ?_ ?_ (h := ?_); (focus (first | rfl | (simp only [Option.getD_some, Option.getD_none, List.length_map]; omega))); (focus (first | rfl | (simp only [Option.getD_some, Option.getD_none, List.length_map]; omega))); (focus omega); (focus omega); (focus (first | with_reducible rfl | assumption | (simp; done)))) | (refine go_ ?_; ((repeat' first | exact True.intro | refine Two.mk ?_ ?_); all_goals intros)) | fail "")
            all_goals first
              | (refine ⟨(j + 1, ({ z.1 with Code := IntKind.i64.wrap ((numG 0 (z.2.1.take 8) : Nat) : Int) }, z.2.1.drop 8, z.2.2), some dd), ?_, ?_, ?_⟩; rotate_left 2; (exact lessA_); (focus (dsimp only; omega)); (focus (exact ⟨hjw, hz, ⟨q.k, q.i, q.o, by unfold I64; dsimp only; rw [IntKind.wrap_i64]; omega, q.r, q.d, by dsimp only; rw [List.length_drop]; omega⟩, hd⟩)))
              | skip
        by_cases c5 : (c.toNat : Int) = 100
        · rw [show stL c z = sDa z by unfold stL; rw [if_neg c1, if_neg c2, if_neg c3, if_neg c4, if_pos c5]] at hz
          subst hc
          have f := numR_facts z.2.1 z.2.2
          have a1 := @da_err z
          have a2 := @da_big z
          have a3 := @da_short z
          have a4 := @da_ok z
          generalize numR z.2.1 z.2.2 = r at *
          obtain ⟨n4, s4, e4⟩ := r
          dsimp only at g f a1 a2 a3 a4
          by_cases he4 : e4 = 0
          · by_cases hb : 120 < n4
            · rw [fin_err (by rw [a2 hb]; decide), a2 hb] at hz
              (repeat' first | refine s_callV [2, 0] (g) (h := ?_) | (refine go_ ?_; ((repeat' first | exact True.intro | refine Two.mk ?_ ?_); all_goals intros)) | fail "")
              all_goals first
                | (refine ⟨(j + 1, (z.1, s4, 1), some dd), ?_, ?_, ?_⟩; rotate_left 2; (exact lessA_); (focus (dsimp only; omega)); (focus (exact ⟨hjw, (fin_err (z := (z.1, s4, 1)) (by dsimp only; omega)).trans hz, ⟨q.k, q.i, q.o, q.c, q.r, q.d, by dsimp only; omega⟩, hd⟩)))
                | skip
            · by_cases hsh : s4.length < n4
              · rw [fin_err (by rw [a3 hb he4 hsh]; decide), a3 hb he4 hsh] at hz
                (repeat' first | refine s_callV [2, 0] (g) (h := ?_) | (refine go_ ?_; ((repeat' first | exact True.intro | refine Two.mk ?_ ?_); all_goals intros)) | fail "")
                all_goals first
                  | (refine ⟨(j + 1, (z.1, s4, 4), some dd), ?_, ?_, ?_⟩; rotate_left 2; (exact lessA_); (focus (dsimp only; omega)); (focus (exact ⟨hjw, (fin_err (z := (z.1, s4, 4)) (by dsimp only; omega)).trans hz, ⟨q.k, q.i, q.o, q.c, q.r, q.d, by dsimp only; omega⟩, hd⟩)))
                  | skip
              · rw [a4 hb he4 hsh] at hz
                have t0 : (s4.take n4).drop 0 = s4.take n4 := List.drop_zero
                have t1 : (s4.take s4.length).drop n4 = s4.drop n4 := by rw [List.take_length]
                have tl : (s4.take n4).length = n4 := by rw [List.length_take]; omega
                (repeat' first | refine s_callV [2, 0] (g) (h := ?_) | (refine s_slice (r := s4.take n4) (0) (n4) ?_ ?_ ?_ ?_ ?_ (h := ?_); (focus (first | rfl | (simp only [Option.getD_some, Option.getD_none, List.length_map]; omega))); (focus (first | rfl | (simp only [Option.getD_some, Option.getD_none, List.length_map]; omega))); (focus omega); (focus omega); (focus (first | with_reducible rfl | assumption | (simp; done)))) | (refine p_slice (r := s4.take n4) (0) (n4) ?_ ?_ ?_ ?_ ?_ (h := ?_); (focus (first | rfl | (simp only [Option.getD_some, Option.getD_none, List.length_map]; omega))); (focus (first | rfl | (simp only [Option.getD_some, Option.getD_none, List.length_map]; omega))); (focus omega); (focus omega); (focus (first | with_reducible rfl | assumption | (simp; done)))) | (refine s_slice_str (r := s4.take n4) (0) (n4) ?_ ?_ ?_ ?_ ?_ (h := ?_); (focus (first | rfl | (simp only [Option.getD_some, Option.getD_none, List.length_map]; omega))); (focus (first | rfl | (simp only [Option.getD_some, Option.getD_none, List.length_map]; omega))); (focus omega); (focus omega); (focus (first | with_reducible rfl | assumption | (simp; done)))) | (refine p_slice_str (r := s4.take n4) (0) (n4) ?_ ?_ ?_ ?_ ?_ (h := ?_); (focus (first | rfl | (simp only [Option.getD_some, Option.getD_none, List.length_map]; omega))); (focus (first | rfl | (simp only [Option.getD_some, Option.getD_none, List.length_map]; omega))); (focus omega); (focus omega); (focus (first | with_reducible rfl | assumption | (simp; done)))) | (refine s_sliceO (r := s4.take n4) (0) (n4) ?_ ?_ ?_ ?_ ?_ (h := ?_); (focus (first | rfl | (simp only [Option.getD_some, Option.getD_none, List.length_map]; omega))); (focus (first | rfl | (simp only [Option.getD_some, Option.getD_none, List.length_map]; omega))); (focus omega); (focus omega); (focus (first | with_reducible rfl | assumption | (simp; done)))) | (refine s_sliceM (r := s4.take n4) (0) (n4) ?_ ?_ ?_ ?_ ?_ (h := ?_); (focus (first | rfl | (simp only [Option.getD_some, Option.getD_none, List.length_map]; omega))); (focus (first | rfl | (simp only [Option.getD_some, Option.getD_none, List.length_map]; omega))); (focus omega); (focus omega); (focus (first | with_reducible rfl | assumption | (simp; done)))) | (refine s_slice (r := s4.drop n4) (n4) (s4.length) ?_ ?_ ?_ ?_ ?_ (h := ?_); (focus (first | rfl | (simp only [Option.getD_some, Option.getD_none, List.length_map]; omega))); (focus (first | rfl | (simp only [Option.getD_some, Option.getD_none, List.length_map]; omega))); (focus omega); (focus omega); (focus (first | with_reducible rfl | assumption | (simp; done)))) | (refine p_slice (r := s4.drop n4) (n4) (s4.length) ?_ ?_ ?_ ?_ ?_ (h := ?_); (focus (first | rfl | (simp only [Option.getD_some, Option.getD_none, List.length_map]; omega))); (focus (first | rfl | (simp only [Option.getD_some, Option.getD_none, List.length_map]; omega))); (focus omega); (focus omega); (focus (first | with_reducible rfl | assumption | (simp; done)))) | (refine s_slice_str (r := s4.drop n4) (n4) (s4.length) ?_ ?_ ?_ ?_ ?_ (h := ?_); (focus (first | rfl | (simp only [Option.getD_some, Option.getD_none, List.length_map]; omega))); (focus (first | rfl | (simp only [Option.getD_some, Option.getD_none, List.length_map]; omega))); (focus omega); (focus omega); (focus (first | with_reducible rfl | assumption | (simp; done)))) | (refine p_slice_str (r := s4.drop n4) (n4) (s4.length) ?_ ?_ ?_ ?_ ?_ (h := ?_); (focus (first | rfl | (simp only [Option.getD_some, Option.getD_none, List.length_map]; omega))); (focus (first | rfl | (simp only [Option.getD_some, Option.getD_none, List.length_map]; omega))); (focus omega); (focus omega); (focus (first | with_reducible rfl | assumption | (simp; done)))) | (refine s_sliceO (r := s4.drop n4) (n4) (s4.length) ?_ ?_ ?_ ?_ ?_ (h := ?_); (focus (first | rfl | (simp only [Option.getD_some, Option.getD_none, List.length_map]; omega))); (focus (first | rfl | (simp only [Option.getD_some, Option.getD_none, List.length_map]; omega))); (focus omega); (focus omega); (focus (first | with_reducible rfl | assumption | (simp; done)))) | (refine s_sliceM (r := s4.drop n4) (n4) (s4.length) ?_ ?_ ?_ ?_ ?_ (h := ?_); (focus (first | rfl | (simp only [Option.getD_some, Option.getD_none, List.length_map]; omega))); (focus (first | rfl | (simp only [Option.getD_some, Option.getD_none, List.length_map]; omega))); (focus omega); (focus omega); (focus (first | with_reducible rfl | assumption | (simp; done)))) | (refine go_ ?_; ((repeat' first | exact True.intro | refine Two.mk ?_ ?_); all_goals intros)) | fail "")
                all_goals first
                  | (refine ⟨(j + 1, ({ z.1 with Data := s4.take n4 }, s4.drop n4, e4), some (s4.take n4)), ?_, ?_, ?_⟩; rotate_left 2; (exact lessA_); (focus (dsimp only; omega)); (focus (exact ⟨hjw, hz, ⟨q.k, q.i, q.o, q.c, q.r, by dsimp only; omega, by dsimp only; rw [List.length_drop]; omega⟩, rfl⟩)))
                  | skip
          · rw [fin_err (by rw [a1 he4]; exact he4), a1 he4] at hz
            (repeat' first | refine s_callV [2, 0] (g) (h := ?_) | (refine go_ ?_; ((repeat' first | exact True.intro | refine Two.mk ?_ ?_); all_goals intros)) | fail "")
            all_goals first
              | (refine ⟨(j + 1, (z.1, s4, e4), some dd), ?_, ?_, ?_⟩; rotate_left 2; (exact lessA_); (focus (dsimp only; omega)); (focus (exact ⟨hjw, (fin_err (z := (z.1, s4, e4)) he4).trans hz, ⟨q.k, q.i, q.o, q.c, q.r, q.d, by dsimp only; omega⟩, hd⟩)))
              | skip
        rw [show stL c z = z by unfold stL; rw [if_neg c1, if_neg c2, if_neg c3, if_neg c4, if_neg c5]] at hz
        subst hc
        (repeat' first | (refine go_ ?_; ((repeat' first | exact True.intro | refine Two.mk ?_ ?_); all_goals intros)) | fail "")
        all_goals first
          | (refine ⟨(j + 1, z, some dd), ?_, ?_, ?_⟩; rotate_left 2; (exact lessA_); (focus (dsimp only; omega)); (focus (exact ⟨hjw, hz, q, hd⟩)))
          | skip
      · rw [List.drop_of_length_le (by omega), show foldR [] z = z from rfl] at hz
        have hc := frameFault_fn z.1 ⟨q.k, q.i, q.o, q.c, by rw [q.r]; simp, by rw [q.r]; intro y hy; (cases hy), by have := q.d; omega⟩
        have he1 : encFrame z.1 = [.lit (.int .i64 z.1.Kind), .lit (.int .i64 z.1.Id), .lit (.int .i64 z.1.Off), .lit (.bool z.1.Fin), .lit (.int .i64 z.1.Code), .ro [], .ro (z.1.Data.map encB)] := by
          unfold encFrame; rw [q.r]; rfl
        rw [he1] at hc
        rw [← hz]
        unfold frFin
        rw [if_neg (by omega)]
        clear hz hR
        generalize hq : frFlt z.1 = f at *
        rw [hd] at he1 hc
        by_cases hf : f = 0
        · rw [if_neg (by omega)]
          unfold encFr
          dsimp only
          rw [he1]
          subst hf
          (repeat' first | (refine s_call (hc) (h := ?_)) | (refine p_call (hc) (h := ?_)) | (refine go_ ?_; ((repeat' first | exact True.intro | refine Two.mk ?_ ?_); all_goals intros)) | fail "")
          all_goals first
            | (exact endwA_)
            | skip
        · rw [if_pos hf]
          (repeat' first | (refine s_call (hc) (h := ?_)) | (refine p_call (hc) (h := ?_)) | (refine go_ ?_; ((repeat' first | exact True.intro | refine Two.mk ?_ ?_); all_goals intros)) | fail "")
          all_goals first
            | (exact endwA_)
            | skip
    · rw [fin_err he] at hz
      rw [← hz]
      clear hz hR
      (repeat' first | (refine go_ ?_; ((repeat' first | exact True.intro | refine Two.mk ?_ ?_); all_goals intros)) | fail "")
      all_goals first
        | (exact endwA_)
        | skip
end Go.Proofs.Ythpophgcmgdpjaa
