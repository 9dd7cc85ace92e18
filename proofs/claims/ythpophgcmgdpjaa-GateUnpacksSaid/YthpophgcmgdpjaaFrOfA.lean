/-
  The reference's FrameOf: what it answers, at an Ack. No condition.
-/
import Derived.Test.YthpophgcmgdpjaaGo
import Derived.Test.YthpophgcmgdpjaaFrO
import Derived.Test.YthpophgcmgdpjaaFrDe
set_option linter.unusedVariables false
set_option linter.unusedSimpArgs false
set_option linter.unusedVariables false
namespace Go.Proofs.Ythpophgcmgdpjaa
set_option maxRecDepth 100000
attribute [local irreducible] Run RunL QStep GStep Fn Less PL FnM

set_option maxHeartbeats 8000000 in
theorem frameOf_fnA (l : List UInt8) (hn : (numR l 0).1 = 2) (hl : l.length ≤ 1000000000000000) : Fn Try.prog 164 [.lit (.string (strB l))] (encFr (frD l)) := by
  have g1 := num_fnm l 0 hl
  have f1 := numR_facts l 0
  unfold frD
  generalize numR l 0 = r at *
  obtain ⟨n, s, e⟩ := r
  dsimp only at g1 f1 hn ⊢
  have hN : Unit → n = 2 := fun _ => hn
  clear hn
  unfold frHead
  by_cases he : e = 0
  case neg =>
    rw [if_pos he]
    refine fn_of_run (by kernel_rfl) Try.func164 rfl (by kernel_rfl) ?_
    (repeat' first | refine s_callV [2, 0] (g1) (h := ?_) | (refine go_ ?_; ((repeat' first | exact True.intro | refine Two.mk ?_ ?_); all_goals intros)) | fail "")
    all_goals (exact endwA_)
  subst he
  rw [if_neg (by omega)]
  by_cases h8 : n = 8
  · rw [if_pos h8]
    subst h8
    refine fn_of_run (by kernel_rfl) Try.func164 rfl (by kernel_rfl) ?_
    (repeat' first | refine s_callV [2, 0] (g1) (h := ?_) | (refine go_ ?_; ((repeat' first | exact True.intro | refine Two.mk ?_ ?_); all_goals intros)) | fail "")
    all_goals (exact endwA_)
  rw [if_neg h8]
  refine fn_of_run (by kernel_rfl) Try.func164 rfl (by kernel_rfl) ?_
  (repeat' first | refine s_callV [2, 0] (g1) (h := ?_) | (refine goU_ 7 ?_; ((repeat' first | exact True.intro | refine Two.mk ?_ ?_); all_goals intros)) | fail "")
  refine r_cut (fun x : Int × Bool => ⟨[(1, .ptr 0 0 0 0), (2, .ptr 1 0 0 0), (5, .lit (.int .i64 l.length)), (6, .ptr 2 0 0 0), (7, .clo 188 [.ptr 2 0 0 0, .ptr 0 0 0 0]), (8, .ptr 3 0 0 0)], [(0, some (.box 9 [.lit (.string (strB (s)))])), (1, some (.box 163 [.lit (.int .i64 0), .lit (.int .i64 0), .lit (.int .i64 0), .lit (.bool false), .lit (.int .i64 0), .lit (.slice none 0 0), .lit (.slice none 0 0)])), (2, some (.box 26 [.lit (.int .i64 0)])), (3, some (.box 163 [.lit (.int .i64 x.1), .lit (.int .i64 0), .lit (.int .i64 0), .lit (.bool x.2), .lit (.int .i64 0), .lit (.slice none 0 0), .lit (.slice none 0 0)]))], 4, Try.f164.ntmps⟩)
    (fun x => x = ((if n = 14 ∨ n = 15 then (8 : Int) else (n : Int)), decide (n = 15))) ?_ ?_
  · by_cases h14 : n = 14
    · subst h14
      (repeat' first | (refine go_ ?_; ((repeat' first | exact True.intro | refine Two.mk ?_ ?_); all_goals intros)) | fail "")
      all_goals first
        | (refine ⟨((8 : Int), false), ?_, ?_⟩; rotate_left 1; (exact lessA_); (focus (rfl)))
        | skip
    · by_cases h15 : n = 15
      · subst h15
        (repeat' first | (refine go_ ?_; ((repeat' first | exact True.intro | refine Two.mk ?_ ?_); all_goals intros)) | fail "")
        all_goals first
          | (refine ⟨((8 : Int), true), ?_, ?_⟩; rotate_left 1; (exact lessA_); (focus (rfl)))
          | skip
      · rw [if_neg (by omega), decide_eq_false h15]
        (repeat' first | (refine go_ ?_; ((repeat' first | exact True.intro | refine Two.mk ?_ ?_); all_goals intros)) | fail "")
        all_goals first
          | (refine ⟨((n : Int), false), ?_, ?_⟩; rotate_left 1; (exact lessA_); (focus (rfl)))
          | skip
  rintro ⟨K, fin⟩ hK
  rw [show (if n = 14 ∨ n = 15 then (8 : Int) else (n : Int)) = K from (congrArg Prod.fst hK).symm, show decide (n = 15) = fin from (congrArg Prod.snd hK).symm]
  have hKi : 0 ≤ K ∧ K ≤ 4611686018427387903 := by
    have := congrArg Prod.fst hK
    dsimp only at this
    split at this <;> omega
  have hKK : K = 2 := by
    have h := congrArg Prod.fst hK
    have hn := hN ()
    dsimp only at h
    split at h <;> omega
  clear hK hN g1
  dsimp only
  have hs := f1.1
  clear f1 h8
  unfold frBody
  have h2 := has_fn K
  by_cases hko : kOk K = false
  · rw [if_pos hko]
    rw [hko] at h2
    (repeat' first | (refine s_call (h2) (h := ?_)) | (refine p_call (h2) (h := ?_)) | (refine go_ ?_; ((repeat' first | exact True.intro | refine Two.mk ?_ ?_); all_goals intros)) | fail "")
    all_goals (exact endwA_)
  rw [if_neg hko]
  have hk1 : kOk K = true := by simpa using hko
  rw [hk1] at h2
  clear hko
  by_cases hK2 : K = 2
  · subst hK2
    rw [if_pos rfl, show seqS (hasB 2) (sRg (⟨2, 0, 0, fin, 0, [], []⟩, s, 0)) = sRg (⟨2, 0, 0, fin, 0, [], []⟩, s, 0) from rfl]
    obtain ⟨w, hw1, hw0, hwe⟩ : ∃ w : List UInt8, w.length = 1 ∧ ((w.getD 0 default).toNat : Int) = 114 ∧ hasB 2 = w := ⟨[114], rfl, rfl, rfl⟩
    rw [hwe] at h2
    clear hwe
    have g1 := num_fnm s 0 (by omega)
    have f1 := numR_facts s 0
    have hfit := @rgR_fits s
    have hlen := rgR_len hs
    unfold sRg
    unfold rgR at *
    generalize numR s 0 = r1 at *
    obtain ⟨hi, s1, e1⟩ := r1
    dsimp only at g1 f1 hfit hlen ⊢
    have g2 := num_fnm s1 e1 (by omega)
    have f2 := numR_facts s1 e1
    generalize numR s1 e1 = r2 at *
    obtain ⟨m, s2, e2⟩ := r2
    dsimp only at g2 f2 hfit hlen ⊢
    have hm0 := f2.2.2.2
    generalize hT : rgGo m hi s2 e2 = T at *
    generalize hR : frFin l.length ({ Kind := 2, Id := 0, Off := 0, Fin := fin, Code := 0, Ranges := T.1, Data := [] }, T.2.1, T.2.2) = R
    (repeat' first | (refine s_call (h2) (h := ?_)) | (refine p_call (h2) (h := ?_)) | (refine go_ ?_; ((repeat' first | exact True.intro | refine Two.mk ?_ ?_); all_goals intros)) | fail "")
    clear h2
    refine r_for (fun x : Nat × List DRange × List UInt8 × Int => match x.1 with
      | 0 => ⟨[(1, .ptr 0 0 0 0), (2, .ptr 1 0 0 0), (5, .lit (.int .i64 l.length)), (6, .ptr 2 0 0 0), (7, .clo 188 [.ptr 2 0 0 0, .ptr 0 0 0 0]), (8, .ptr 3 0 0 0), (9, .lit (.string (strB w))), (11, .lit (.int .i64 0))], [(0, some (.box 9 [.lit (.string (strB (s)))])), (1, some (.box 163 [.lit (.int .i64 0), .lit (.int .i64 0), .lit (.int .i64 0), .lit (.bool false), .lit (.int .i64 0), .lit (.slice none 0 0), .lit (.slice none 0 0)])), (2, some (.box 26 [.lit (.int .i64 (0))])), (3, some (.box 163 [.lit (.int .i64 2), .lit (.int .i64 0), .lit (.int .i64 0), .lit (.bool fin), .lit (.int .i64 0), .lit (.slice none 0 0), .lit (.slice none 0 0)]))], 4, Try.f164.ntmps⟩
      | 1 => ⟨[(1, .ptr 0 0 0 0), (2, .ptr 1 0 0 0), (5, .lit (.int .i64 l.length)), (6, .ptr 2 0 0 0), (7, .clo 188 [.ptr 2 0 0 0, .ptr 0 0 0 0]), (8, .ptr 3 0 0 0), (9, .lit (.string (strB w))), (11, .lit (.int .i64 1))], [(0, some (.box 9 [.lit (.string (strB (x.2.2.1)))])), (1, some (.box 163 [.lit (.int .i64 0), .lit (.int .i64 0), .lit (.int .i64 0), .lit (.bool false), .lit (.int .i64 0), .lit (.slice none 0 0), .lit (.slice none 0 0)])), (2, some (.box 26 [.lit (.int .i64 (x.2.2.2))])), (3, some (.box 163 [.lit (.int .i64 2), .lit (.int .i64 0), .lit (.int .i64 0), .lit (.bool fin), .lit (.int .i64 0), .lit (.slice none 0 0), .lit (.slice none 0 0)]))], 4, Try.f164.ntmps⟩
      | _ => ⟨[(1, .ptr 0 0 0 0), (2, .ptr 1 0 0 0), (5, .lit (.int .i64 l.length)), (6, .ptr 2 0 0 0), (7, .clo 188 [.ptr 2 0 0 0, .ptr 0 0 0 0]), (8, .ptr 3 0 0 0), (9, .lit (.string (strB w))), (11, .lit (.int .i64 1))], [(0, some (.box 9 [.lit (.string (strB (x.2.2.1)))])), (1, some (.box 163 [.lit (.int .i64 0), .lit (.int .i64 0), .lit (.int .i64 0), .lit (.bool false), .lit (.int .i64 0), .lit (.slice none 0 0), .lit (.slice none 0 0)])), (2, some (.box 26 [.lit (.int .i64 (x.2.2.2))])), (3, some (.box 163 [.lit (.int .i64 2), .lit (.int .i64 0), .lit (.int .i64 0), .lit (.bool fin), .lit (.int .i64 0), .own 4, .lit (.slice none 0 0)])), (4, some (.row 232 2 ((x.2.1).map encRange)))], 5, Try.f164.ntmps⟩)
      (fun x => (x.1 = 1 → ¬ x.2.2.2 = 0 ∧ frErr x.2.2.2 = R) ∧ (2 ≤ x.1 → T = (x.2.1, x.2.2.1, x.2.2.2))) (fun x => 1 - x.1) (0, [], [], 0) ⟨fun h => (by cases h), fun h => absurd h (by decide)⟩ (by (try dsimp only); (exact lessA_)) ?_
    rintro ⟨ph, rg, sx, ex⟩ ⟨hp1, hp2⟩
    dsimp only at hp1 hp2 ⊢
    rcases ph with _ | _ | ph
    · try dsimp only
      by_cases h6 : e2 = 0 ∧ 6 ≤ m
      · have hT1 : T = ([], s2, 1) := by rw [← hT]; exact if_pos h6
        have hRe : frErr 1 = R := by rw [← hR, hT1]; rfl
        (repeat' first | refine s_callV [2, 0] (g1) (h := ?_) | refine s_callV [2, 0] (g2) (h := ?_) | (refine go_ ?_; ((repeat' first | exact True.intro | refine Two.mk ?_ ?_); all_goals intros)) | fail "")
        refine r_for (fun _ : Unit => ⟨[(1, .ptr 0 0 0 0), (2, .ptr 1 0 0 0), (5, .lit (.int .i64 l.length)), (6, .ptr 2 0 0 0), (7, .clo 188 [.ptr 2 0 0 0, .ptr 0 0 0 0]), (8, .ptr 3 0 0 0), (9, .lit (.string (strB w))), (11, .lit (.int .i64 0)), (12, .lit (.int .i64 hi)), (13, .lit (.int .i64 m)), (14, .lit (.int .i64 0))], [(0, some (.box 9 [.lit (.string (strB (s2)))])), (1, some (.box 163 [.lit (.int .i64 0), .lit (.int .i64 0), .lit (.int .i64 0), .lit (.bool false), .lit (.int .i64 0), .lit (.slice none 0 0), .lit (.slice none 0 0)])), (2, some (.box 26 [.lit (.int .i64 (1))])), (3, some (.box 163 [.lit (.int .i64 2), .lit (.int .i64 0), .lit (.int .i64 0), .lit (.bool fin), .lit (.int .i64 0), .lit (.slice none 0 0), .lit (.slice none 0 0)]))], 4, Try.f164.ntmps⟩) (fun _ => True) (fun _ => 0) () trivial (by (exact lessA_)) ?_
        intro _ _
        (repeat' first | (refine go_ ?_; ((repeat' first | exact True.intro | refine Two.mk ?_ ?_); all_goals intros)) | fail "")
        all_goals first
          | (refine ⟨(1, [], s2, 1), ?_, ?_, ?_⟩; rotate_left 2; (exact lessA_); (focus (dsimp only; omega)); (focus (exact ⟨fun _ => ⟨(by dsimp only; omega), hRe⟩, fun h => absurd h (by dsimp only; omega)⟩)))
          | skip
      · have hT1 : rgRun (m + 1) 0 hi [] s2 e2 = T := by rw [← hT]; exact (if_neg h6).symm
        by_cases he2 : e2 = 0
        case neg =>
          rw [rgRun_err he2] at hT1
          have hRe : frErr e2 = R := by rw [← hR, ← hT1]; exact (if_pos he2).symm
          (repeat' first | refine s_callV [2, 0] (g1) (h := ?_) | refine s_callV [2, 0] (g2) (h := ?_) | (refine go_ ?_; ((repeat' first | exact True.intro | refine Two.mk ?_ ?_); all_goals intros)) | fail "")
          refine r_for (fun _ : Unit => ⟨[(1, .ptr 0 0 0 0), (2, .ptr 1 0 0 0), (5, .lit (.int .i64 l.length)), (6, .ptr 2 0 0 0), (7, .clo 188 [.ptr 2 0 0 0, .ptr 0 0 0 0]), (8, .ptr 3 0 0 0), (9, .lit (.string (strB w))), (11, .lit (.int .i64 0)), (12, .lit (.int .i64 hi)), (13, .lit (.int .i64 m)), (14, .lit (.int .i64 0))], [(0, some (.box 9 [.lit (.string (strB (s2)))])), (1, some (.box 163 [.lit (.int .i64 0), .lit (.int .i64 0), .lit (.int .i64 0), .lit (.bool false), .lit (.int .i64 0), .lit (.slice none 0 0), .lit (.slice none 0 0)])), (2, some (.box 26 [.lit (.int .i64 (e2))])), (3, some (.box 163 [.lit (.int .i64 2), .lit (.int .i64 0), .lit (.int .i64 0), .lit (.bool fin), .lit (.int .i64 0), .lit (.slice none 0 0), .lit (.slice none 0 0)]))], 4, Try.f164.ntmps⟩) (fun _ => True) (fun _ => 0) () trivial (by (exact lessA_)) ?_
          intro _ _
          (repeat' first | (refine go_ ?_; ((repeat' first | exact True.intro | refine Two.mk ?_ ?_); all_goals intros)) | fail "")
          all_goals first
            | (refine ⟨(1, [], s2, e2), ?_, ?_, ?_⟩; rotate_left 2; (exact lessA_); (focus (dsimp only; omega)); (focus (exact ⟨fun _ => ⟨he2, hRe⟩, fun h => absurd h (by dsimp only; omega)⟩)))
            | skip
        have hhi : hi ≤ 4611686018427387903 := f1.2.1
        have hs2 : s2.length ≤ l.length := by omega
        (repeat' first | refine s_callV [2, 0] (g1) (h := ?_) | refine s_callV [2, 0] (g2) (h := ?_) | (refine go_ ?_; ((repeat' first | exact True.intro | refine Two.mk ?_ ?_); all_goals intros)) | fail "")
        clear g1 g2 f1 f2
        refine r_for (fun x : Nat × Int × List DRange × List UInt8 × Int => match x.1 with
          | 0 => ⟨[(1, .ptr 0 0 0 0), (2, .ptr 1 0 0 0), (5, .lit (.int .i64 l.length)), (6, .ptr 2 0 0 0), (7, .clo 188 [.ptr 2 0 0 0, .ptr 0 0 0 0]), (8, .ptr 3 0 0 0), (9, .lit (.string (strB w))), (11, .lit (.int .i64 0)), (12, .lit (.int .i64 x.2.1)), (13, .lit (.int .i64 m)), (14, .lit (.int .i64 0))], [(0, some (.box 9 [.lit (.string (strB (x.2.2.2.1)))])), (1, some (.box 163 [.lit (.int .i64 0), .lit (.int .i64 0), .lit (.int .i64 0), .lit (.bool false), .lit (.int .i64 0), .lit (.slice none 0 0), .lit (.slice none 0 0)])), (2, some (.box 26 [.lit (.int .i64 (x.2.2.2.2))])), (3, some (.box 163 [.lit (.int .i64 2), .lit (.int .i64 0), .lit (.int .i64 0), .lit (.bool fin), .lit (.int .i64 0), .lit (.slice none 0 0), .lit (.slice none 0 0)]))], 4, Try.f164.ntmps⟩
          | k + 1 => ⟨[(1, .ptr 0 0 0 0), (2, .ptr 1 0 0 0), (5, .lit (.int .i64 l.length)), (6, .ptr 2 0 0 0), (7, .clo 188 [.ptr 2 0 0 0, .ptr 0 0 0 0]), (8, .ptr 3 0 0 0), (9, .lit (.string (strB w))), (11, .lit (.int .i64 0)), (12, .lit (.int .i64 x.2.1)), (13, .lit (.int .i64 m)), (14, .lit (.int .i64 ((k + 1 : Nat) : Int)))], [(0, some (.box 9 [.lit (.string (strB (x.2.2.2.1)))])), (1, some (.box 163 [.lit (.int .i64 0), .lit (.int .i64 0), .lit (.int .i64 0), .lit (.bool false), .lit (.int .i64 0), .lit (.slice none 0 0), .lit (.slice none 0 0)])), (2, some (.box 26 [.lit (.int .i64 (x.2.2.2.2))])), (3, some (.box 163 [.lit (.int .i64 2), .lit (.int .i64 0), .lit (.int .i64 0), .lit (.bool fin), .lit (.int .i64 0), .own 4, .lit (.slice none 0 0)])), (4, some (.row 232 2 ((x.2.2.1).map encRange)))], 5, Try.f164.ntmps⟩)
          (fun x => x.1 ≤ m + 1 ∧ rgRun (m + 1 - x.1) x.1 x.2.1 x.2.2.1 x.2.2.2.1 x.2.2.2.2 = T ∧ x.2.2.2.1.length ≤ l.length ∧ x.2.2.1.length = x.1 ∧ (x.1 = 0 → 0 ≤ x.2.1 ∧ x.2.1 ≤ 4611686018427387903) ∧ (0 < x.1 → x.2.2.2.2 = 0 → 0 ≤ (x.2.2.1.getD (x.1 - 1) default).Lo ∧ (x.2.2.1.getD (x.1 - 1) default).Lo ≤ 4611686018427387903))
          (fun x => m + 1 - x.1) (0, (hi : Int), [], s2, e2) ⟨Nat.zero_le _, hT1, hs2, rfl, fun _ => by dsimp only; omega, fun h => by dsimp only at h; omega⟩ (by (try dsimp only); (exact lessA_)) ?_
        rintro ⟨i, hi, out, s, e⟩ ⟨q1, q2, q3, q4, q5, q6⟩
        dsimp only at q1 q2 q3 q4 q5 q6
        rcases i with _ | k
        · try dsimp only
          have ho : out = [] := List.length_eq_zero_iff.1 q4
          subst ho
          have q5 := q5 rfl
          by_cases he : e = 0
          · subst he
            rw [show m + 1 - 0 = m + 1 by omega, show rgRun (m + 1) 0 hi [] s 0 = rgRun m (0 + 1) (rgIt 0 hi [] s 0).1 (rgIt 0 hi [] s 0).2.1 (rgIt 0 hi [] s 0).2.2.1 (rgIt 0 hi [] s 0).2.2.2 from if_neg (by omega)] at q2
            rw [show m = m + 1 - (0 + 1) by omega] at q2
            have g1 := num_fnm s 0 (by omega)
            have f1 := numR_facts s 0
            rw [show rgIt 0 hi [] s 0 = _ from if_pos rfl] at q2
            generalize numR s 0 = r at *
            obtain ⟨n1, s1, e1⟩ := r
            dsimp only at q2 g1 f1
            rw [List.nil_append] at q2
            by_cases hlo : hi - (n1 : Int) < 0
            · by_cases he1 : e1 = 0
              · rw [if_pos ⟨he1, hlo⟩] at q2
                (repeat' first | refine s_callV [2, 0] (g1) (h := ?_) | (refine s_app (r := [DRange.mk (hi - (n1 : Int)) hi].map encRange) ?_ ?_ ?_ ?_ (h := ?_); (focus (first | (rfl) | with_reducible rfl | with_reducible exact List.nil_append _ | with_reducible exact (List.map_append ..).symm | (rw [take_snoc (by assumption), List.map_append]; rfl) | (rw [List.map_append]; rfl) | (simp; done))); (focus (first | exact len_none | exact len_one rfl | exact len_two rfl rfl | exact len_enc (fun _ => rfl))); (focus ((conv => lhs; rhs; whnf); simp only [List.length_map, List.length_append, List.length_cons, List.length_nil, List.length_take]; omega)); (focus (simp only [List.length_map, List.length_append, List.length_cons, List.length_nil, List.length_take]; omega))) | (refine s_app0R (r := [DRange.mk (hi - (n1 : Int)) hi].map encRange) ?_ ?_ ?_ ?_ (h := ?_); (focus (first | (rfl) | with_reducible rfl | with_reducible exact List.nil_append _ | with_reducible exact (List.map_append ..).symm | (rw [take_snoc (by assumption), List.map_append]; rfl) | (rw [List.map_append]; rfl) | (simp; done))); (focus (first | exact len_none | exact len_one rfl | exact len_two rfl rfl | exact len_enc (fun _ => rfl))); (focus ((conv => lhs; rhs; whnf); simp only [List.length_map, List.length_append, List.length_cons, List.length_nil, List.length_take]; omega)); (focus (simp only [List.length_map, List.length_append, List.length_cons, List.length_nil, List.length_take]; omega))) | (refine p_app (r := [DRange.mk (hi - (n1 : Int)) hi].map encRange) ?_ ?_ ?_ ?_ (h := ?_); (focus (first | (rfl) | with_reducible rfl | with_reducible exact List.nil_append _ | with_reducible exact (List.map_append ..).symm | (rw [take_snoc (by assumption), List.map_append]; rfl) | (rw [List.map_append]; rfl) | (simp; done))); (focus (first | exact len_none | exact len_one rfl | exact len_two rfl rfl | exact len_enc (fun _ => rfl))); (focus ((conv => lhs; rhs; whnf); simp only [List.length_map, List.length_append, List.length_cons, List.length_nil, List.length_take]; omega)); (focus (simp only [List.length_map, List.length_append, List.length_cons, List.length_nil, List.length_take]; omega))) | (refine p_app0R (r := [DRange.mk (hi - (n1 : Int)) hi].map encRange) ?_ ?_ ?_ ?_ (h := ?_); (focus (first | (rfl) | with_reducible rfl | with_reducible exact List.nil_append _ | with_reducible exact (List.map_append ..).symm | (rw [take_snoc (by assumption), List.map_append]; rfl) | (rw [List.map_append]; rfl) | (simp; done))); (focus (first | exact len_none | exact len_one rfl | exact len_two rfl rfl | exact len_enc (fun _ => rfl))); (focus ((conv => lhs; rhs; whnf); simp only [List.length_map, List.length_append, List.length_cons, List.length_nil, List.length_take]; omega)); (focus (simp only [List.length_map, List.length_append, List.length_cons, List.length_nil, List.length_take]; omega))) | (refine go_ ?_; ((repeat' first | exact True.intro | refine Two.mk ?_ ?_); all_goals intros)) | fail "")
                all_goals first
                  | (refine ⟨(0 + 1, hi, [DRange.mk (hi - (n1 : Int)) hi], s1, 6), ?_, ?_, ?_⟩; rotate_left 2; (exact lessA_); (focus (dsimp only; omega)); (focus (exact ⟨by omega, q2, by dsimp only; omega, rfl, fun h => (by simp at h), fun _ h => (by simp at h)⟩)))
                  | skip
              · rw [if_neg (fun h => he1 h.1)] at q2
                (repeat' first | refine s_callV [2, 0] (g1) (h := ?_) | (refine s_app (r := [DRange.mk (hi - (n1 : Int)) hi].map encRange) ?_ ?_ ?_ ?_ (h := ?_); (focus (first | (rfl) | with_reducible rfl | with_reducible exact List.nil_append _ | with_reducible exact (List.map_append ..).symm | (rw [take_snoc (by assumption), List.map_append]; rfl) | (rw [List.map_append]; rfl) | (simp; done))); (focus (first | exact len_none | exact len_one rfl | exact len_two rfl rfl | exact len_enc (fun _ => rfl))); (focus ((conv => lhs; rhs; whnf); simp only [List.length_map, List.length_append, List.length_cons, List.length_nil, List.length_take]; omega)); (focus (simp only [List.length_map, List.length_append, List.length_cons, List.length_nil, List.length_take]; omega))) | (refine s_app0R (r := [DRange.mk (hi - (n1 : Int)) hi].map encRange) ?_ ?_ ?_ ?_ (h := ?_); (focus (first | (rfl) | with_reducible rfl | with_reducible exact List.nil_append _ | with_reducible exact (List.map_append ..).symm | (rw [take_snoc (by assumption), List.map_append]; rfl) | (rw [List.map_append]; rfl) | (simp; done))); (focus (first | exact len_none | exact len_one rfl | exact len_two rfl rfl | exact len_enc (fun _ => rfl))); (focus ((conv => lhs; rhs; whnf); simp only [List.length_map, List.length_append, List.length_cons, List.length_nil, List.length_take]; omega)); (focus (simp only [List.length_map, List.length_append, List.length_cons, List.length_nil, List.length_take]; omega))) | (refine p_app (r := [DRange.mk (hi - (n1 : Int)) hi].map encRange) ?_ ?_ ?_ ?_ (h := ?_); (focus (first | (rfl) | with_reducible rfl | with_reducible exact List.nil_append _ | with_reducible exact (List.map_append ..).symm | (rw [take_snoc (by assumption), List.map_append]; rfl) | (rw [List.map_append]; rfl) | (simp; done))); (focus (first | exact len_none | exact len_one rfl | exact len_two rfl rfl | exact len_enc (fun _ => rfl))); (focus ((conv => lhs; rhs; whnf); simp only [List.length_map, List.length_append, List.length_cons, List.length_nil, List.length_take]; omega)); (focus (simp only [List.length_map, List.length_append, List.length_cons, List.length_nil, List.length_take]; omega))) | (refine p_app0R (r := [DRange.mk (hi - (n1 : Int)) hi].map encRange) ?_ ?_ ?_ ?_ (h := ?_); (focus (first | (rfl) | with_reducible rfl | with_reducible exact List.nil_append _ | with_reducible exact (List.map_append ..).symm | (rw [take_snoc (by assumption), List.map_append]; rfl) | (rw [List.map_append]; rfl) | (simp; done))); (focus (first | exact len_none | exact len_one rfl | exact len_two rfl rfl | exact len_enc (fun _ => rfl))); (focus ((conv => lhs; rhs; whnf); simp only [List.length_map, List.length_append, List.length_cons, List.length_nil, List.length_take]; omega)); (focus (simp only [List.length_map, List.length_append, List.length_cons, List.length_nil, List.length_take]; omega))) | (refine go_ ?_; ((repeat' first | exact True.intro | refine Two.mk ?_ ?_); all_goals intros)) | fail "")
                all_goals first
                  | (refine ⟨(0 + 1, hi, [DRange.mk (hi - (n1 : Int)) hi], s1, e1), ?_, ?_, ?_⟩; rotate_left 2; (exact lessA_); (focus (dsimp only; omega)); (focus (exact ⟨by omega, q2, by dsimp only; omega, rfl, fun h => (by simp at h), fun _ h => absurd h he1⟩)))
                  | skip
            · rw [if_neg (fun h => hlo h.2)] at q2
              (repeat' first | refine s_callV [2, 0] (g1) (h := ?_) | (refine s_app (r := [DRange.mk (hi - (n1 : Int)) hi].map encRange) ?_ ?_ ?_ ?_ (h := ?_); (focus (first | (rfl) | with_reducible rfl | with_reducible exact List.nil_append _ | with_reducible exact (List.map_append ..).symm | (rw [take_snoc (by assumption), List.map_append]; rfl) | (rw [List.map_append]; rfl) | (simp; done))); (focus (first | exact len_none | exact len_one rfl | exact len_two rfl rfl | exact len_enc (fun _ => rfl))); (focus ((conv => lhs; rhs; whnf); simp only [List.length_map, List.length_append, List.length_cons, List.length_nil, List.length_take]; omega)); (focus (simp only [List.length_map, List.length_append, List.length_cons, List.length_nil, List.length_take]; omega))) | (refine s_app0R (r := [DRange.mk (hi - (n1 : Int)) hi].map encRange) ?_ ?_ ?_ ?_ (h := ?_); (focus (first | (rfl) | with_reducible rfl | with_reducible exact List.nil_append _ | with_reducible exact (List.map_append ..).symm | (rw [take_snoc (by assumption), List.map_append]; rfl) | (rw [List.map_append]; rfl) | (simp; done))); (focus (first | exact len_none | exact len_one rfl | exact len_two rfl rfl | exact len_enc (fun _ => rfl))); (focus ((conv => lhs; rhs; whnf); simp only [List.length_map, List.length_append, List.length_cons, List.length_nil, List.length_take]; omega)); (focus (simp only [List.length_map, List.length_append, List.length_cons, List.length_nil, List.length_take]; omega))) | (refine p_app (r := [DRange.mk (hi - (n1 : Int)) hi].map encRange) ?_ ?_ ?_ ?_ (h := ?_); (focus (first | (rfl) | with_reducible rfl | with_reducible exact List.nil_append _ | with_reducible exact (List.map_append ..).symm | (rw [take_snoc (by assumption), List.map_append]; rfl) | (rw [List.map_append]; rfl) | (simp; done))); (focus (first | exact len_none | exact len_one rfl | exact len_two rfl rfl | exact len_enc (fun _ => rfl))); (focus ((conv => lhs; rhs; whnf); simp only [List.length_map, List.length_append, List.length_cons, List.length_nil, List.length_take]; omega)); (focus (simp only [List.length_map, List.length_append, List.length_cons, List.length_nil, List.length_take]; omega))) | (refine p_app0R (r := [DRange.mk (hi - (n1 : Int)) hi].map encRange) ?_ ?_ ?_ ?_ (h := ?_); (focus (first | (rfl) | with_reducible rfl | with_reducible exact List.nil_append _ | with_reducible exact (List.map_append ..).symm | (rw [take_snoc (by assumption), List.map_append]; rfl) | (rw [List.map_append]; rfl) | (simp; done))); (focus (first | exact len_none | exact len_one rfl | exact len_two rfl rfl | exact len_enc (fun _ => rfl))); (focus ((conv => lhs; rhs; whnf); simp only [List.length_map, List.length_append, List.length_cons, List.length_nil, List.length_take]; omega)); (focus (simp only [List.length_map, List.length_append, List.length_cons, List.length_nil, List.length_take]; omega))) | (refine go_ ?_; ((repeat' first | exact True.intro | refine Two.mk ?_ ?_); all_goals intros)) | fail "")
              all_goals first
                | (refine ⟨(0 + 1, hi, [DRange.mk (hi - (n1 : Int)) hi], s1, e1), ?_, ?_, ?_⟩; rotate_left 2; (exact lessA_); (focus (dsimp only; omega)); (focus (exact ⟨by omega, q2, by dsimp only; omega, rfl, fun h => (by simp at h), fun _ _ => by simp only [Nat.zero_add, Nat.sub_self, List.getD_cons_zero]; omega⟩)))
                | skip
          · rw [rgRun_err he] at q2
            have hRe : frErr e = R := by rw [← hR, ← q2]; exact (if_pos he).symm
            (repeat' first | (refine go_ ?_; ((repeat' first | exact True.intro | refine Two.mk ?_ ?_); all_goals intros)) | fail "")
            all_goals first
              | (refine ⟨(1, [], s, e), ?_, ?_, ?_⟩; rotate_left 2; (exact lessA_); (focus (dsimp only; omega)); (focus (exact ⟨fun _ => ⟨he, hRe⟩, fun h => absurd h (by dsimp only; omega)⟩)))
              | skip
        · try dsimp only
          by_cases he : e = 0
          · subst he
            by_cases him : k + 1 ≤ m
            · have q6 := q6 (by omega) rfl
              have hmm : m + 1 - (k + 1) = (m + 1 - (k + 1 + 1)) + 1 := by omega
              rw [hmm, show rgRun (m + 1 - (k + 1 + 1) + 1) (k + 1) hi out s 0 = rgRun (m + 1 - (k + 1 + 1)) (k + 1 + 1) (rgIt (k + 1) hi out s 0).1 (rgIt (k + 1) hi out s 0).2.1 (rgIt (k + 1) hi out s 0).2.2.1 (rgIt (k + 1) hi out s 0).2.2.2 from if_neg (by omega)] at q2
              have ei : ((k + 1 : Nat) : Int) - 1 = (k : Int) := by omega
              have g1 := num_fnm s 0 (by omega)
              have f1 := numR_facts s 0
              rw [show rgIt (k + 1) hi out s 0 = _ from if_neg (by omega)] at q2
              generalize numR s 0 = r at *
              obtain ⟨n1, s1, e1⟩ := r
              dsimp only at q2 g1 f1
              have g3 := num_fnm s1 e1 (by omega)
              have f3 := numR_facts s1 e1
              generalize numR s1 e1 = r at *
              obtain ⟨n2, s2, e2⟩ := r
              dsimp only at q2 g3 f3
              by_cases hlo : (out.getD (k + 1 - 1) default).Lo - (n1 : Int) - 2 - (n2 : Int) < 0
              · by_cases he1 : e2 = 0
                · rw [if_pos ⟨he1, hlo⟩] at q2
                  (repeat' first | refine s_callV [2, 0] (g1) (h := ?_) | refine s_callV [2, 0] (g3) (h := ?_) | (refine s_app (r := (out ++ [DRange.mk ((out.getD (k + 1 - 1) default).Lo - (n1 : Int) - 2 - (n2 : Int)) ((out.getD (k + 1 - 1) default).Lo - (n1 : Int) - 2)]).map encRange) ?_ ?_ ?_ ?_ (h := ?_); (focus (first | (rw [List.map_append]; rfl) | with_reducible rfl | with_reducible exact List.nil_append _ | with_reducible exact (List.map_append ..).symm | (rw [take_snoc (by assumption), List.map_append]; rfl) | (rw [List.map_append]; rfl) | (simp; done))); (focus (first | exact len_none | exact len_one rfl | exact len_two rfl rfl | exact len_enc (fun _ => rfl))); (focus ((conv => lhs; rhs; whnf); simp only [List.length_map, List.length_append, List.length_cons, List.length_nil, List.length_take]; omega)); (focus (simp only [List.length_map, List.length_append, List.length_cons, List.length_nil, List.length_take]; omega))) | (refine s_app0R (r := (out ++ [DRange.mk ((out.getD (k + 1 - 1) default).Lo - (n1 : Int) - 2 - (n2 : Int)) ((out.getD (k + 1 - 1) default).Lo - (n1 : Int) - 2)]).map encRange) ?_ ?_ ?_ ?_ (h := ?_); (focus (first | (rw [List.map_append]; rfl) | with_reducible rfl | with_reducible exact List.nil_append _ | with_reducible exact (List.map_append ..).symm | (rw [take_snoc (by assumption), List.map_append]; rfl) | (rw [List.map_append]; rfl) | (simp; done))); (focus (first | exact len_none | exact len_one rfl | exact len_two rfl rfl | exact len_enc (fun _ => rfl))); (focus ((conv => lhs; rhs; whnf); simp only [List.length_map, List.length_append, List.length_cons, List.length_nil, List.length_take]; omega)); (focus (simp only [List.length_map, List.length_append, List.length_cons, List.length_nil, List.length_take]; omega))) | (refine p_app (r := (out ++ [DRange.mk ((out.getD (k + 1 - 1) default).Lo - (n1 : Int) - 2 - (n2 : Int)) ((out.getD (k + 1 - 1) default).Lo - (n1 : Int) - 2)]).map encRange) ?_ ?_ ?_ ?_ (h := ?_); (focus (first | (rw [List.map_append]; rfl) | with_reducible rfl | with_reducible exact List.nil_append _ | with_reducible exact (List.map_append ..).symm | (rw [take_snoc (by assumption), List.map_append]; rfl) | (rw [List.map_append]; rfl) | (simp; done))); (focus (first | exact len_none | exact len_one rfl | exact len_two rfl rfl | exact len_enc (fun _ => rfl))); (focus ((conv => lhs; rhs; whnf); simp only [List.length_map, List.length_append, List.length_cons, List.length_nil, List.length_take]; omega)); (focus (simp only [List.length_map, List.length_append, List.length_cons, List.length_nil, List.length_take]; omega))) | (refine p_app0R (r := (out ++ [DRange.mk ((out.getD (k + 1 - 1) default).Lo - (n1 : Int) - 2 - (n2 : Int)) ((out.getD (k + 1 - 1) default).Lo - (n1 : Int) - 2)]).map encRange) ?_ ?_ ?_ ?_ (h := ?_); (focus (first | (rw [List.map_append]; rfl) | with_reducible rfl | with_reducible exact List.nil_append _ | with_reducible exact (List.map_append ..).symm | (rw [take_snoc (by assumption), List.map_append]; rfl) | (rw [List.map_append]; rfl) | (simp; done))); (focus (first | exact len_none | exact len_one rfl | exact len_two rfl rfl | exact len_enc (fun _ => rfl))); (focus ((conv => lhs; rhs; whnf); simp only [List.length_map, List.length_append, List.length_cons, List.length_nil, List.length_take]; omega)); (focus (simp only [List.length_map, List.length_append, List.length_cons, List.length_nil, List.length_take]; omega))) | (refine go_ ?_; ((repeat' first | exact True.intro | refine Two.mk ?_ ?_); all_goals intros)) | fail "")
                  all_goals first
                    | (refine ⟨(k + 1 + 1, (out.getD (k + 1 - 1) default).Lo - (n1 : Int) - 2, out ++ [DRange.mk ((out.getD (k + 1 - 1) default).Lo - (n1 : Int) - 2 - (n2 : Int)) ((out.getD (k + 1 - 1) default).Lo - (n1 : Int) - 2)], s2, 6), ?_, ?_, ?_⟩; rotate_left 2; (exact lessA_); (focus (dsimp only; omega)); (focus (exact ⟨by omega, q2, by dsimp only; omega, by dsimp only; rw [List.length_append, q4]; rfl, fun h => (by simp at h), fun _ h => (by simp at h)⟩)))
                    | skip
                · rw [if_neg (fun h => he1 h.1)] at q2
                  (repeat' first | refine s_callV [2, 0] (g1) (h := ?_) | refine s_callV [2, 0] (g3) (h := ?_) | (refine s_app (r := (out ++ [DRange.mk ((out.getD (k + 1 - 1) default).Lo - (n1 : Int) - 2 - (n2 : Int)) ((out.getD (k + 1 - 1) default).Lo - (n1 : Int) - 2)]).map encRange) ?_ ?_ ?_ ?_ (h := ?_); (focus (first | (rw [List.map_append]; rfl) | with_reducible rfl | with_reducible exact List.nil_append _ | with_reducible exact (List.map_append ..).symm | (rw [take_snoc (by assumption), List.map_append]; rfl) | (rw [List.map_append]; rfl) | (simp; done))); (focus (first | exact len_none | exact len_one rfl | exact len_two rfl rfl | exact len_enc (fun _ => rfl))); (focus ((conv => lhs; rhs; whnf); simp only [List.length_map, List.length_append, List.length_cons, List.length_nil, List.length_take]; omega)); (focus (simp only [List.length_map, List.length_append, List.length_cons, List.length_nil, List.length_take]; omega))) | (refine s_app0R (r := (out ++ [DRange.mk ((out.getD (k + 1 - 1) default).Lo - (n1 : Int) - 2 - (n2 : Int)) ((out.getD (k + 1 - 1) default).Lo - (n1 : Int) - 2)]).map encRange) ?_ ?_ ?_ ?_ (h := ?_); (focus (first | (rw [List.map_append]; rfl) | with_reducible rfl | with_reducible exact List.nil_append _ | with_reducible exact (List.map_append ..).symm | (rw [take_snoc (by assumption), List.map_append]; rfl) | (rw [List.map_append]; rfl) | (simp; done))); (focus (first | exact len_none | exact len_one rfl | exact len_two rfl rfl | exact len_enc (fun _ => rfl))); (focus ((conv => lhs; rhs; whnf); simp only [List.length_map, List.length_append, List.length_cons, List.length_nil, List.length_take]; omega)); (focus (simp only [List.length_map, List.length_append, List.length_cons, List.length_nil, List.length_take]; omega))) | (refine p_app (r := (out ++ [DRange.mk ((out.getD (k + 1 - 1) default).Lo - (n1 : Int) - 2 - (n2 : Int)) ((out.getD (k + 1 - 1) default).Lo - (n1 : Int) - 2)]).map encRange) ?_ ?_ ?_ ?_ (h := ?_); (focus (first | (rw [List.map_append]; rfl) | with_reducible rfl | with_reducible exact List.nil_append _ | with_reducible exact (List.map_append ..).symm | (rw [take_snoc (by assumption), List.map_append]; rfl) | (rw [List.map_append]; rfl) | (simp; done))); (focus (first | exact len_none | exact len_one rfl | exact len_two rfl rfl | exact len_enc (fun _ => rfl))); (focus ((conv => lhs; rhs; whnf); simp only [List.length_map, List.length_append, List.length_cons, List.length_nil, List.length_take]; omega)); (focus (simp only [List.length_map, List.length_append, List.length_cons, List.length_nil, List.length_take]; omega))) | (refine p_app0R (r := (out ++ [DRange.mk ((out.getD (k + 1 - 1) default).Lo - (n1 : Int) - 2 - (n2 : Int)) ((out.getD (k + 1 - 1) default).Lo - (n1 : Int) - 2)]).map encRange) ?_ ?_ ?_ ?_ (h := ?_); (focus (first | (rw [List.map_append]; rfl) | with_reducible rfl | with_reducible exact List.nil_append _ | with_reducible exact (List.map_append ..).symm | (rw [take_snoc (by assumption), List.map_append]; rfl) | (rw [List.map_append]; rfl) | (simp; done))); (focus (first | exact len_none | exact len_one rfl | exact len_two rfl rfl | exact len_enc (fun _ => rfl))); (focus ((conv => lhs; rhs; whnf); simp only [List.length_map, List.length_append, List.length_cons, List.length_nil, List.length_take]; omega)); (focus (simp only [List.length_map, List.length_append, List.length_cons, List.length_nil, List.length_take]; omega))) | (refine go_ ?_; ((repeat' first | exact True.intro | refine Two.mk ?_ ?_); all_goals intros)) | fail "")
                  all_goals first
                    | (refine ⟨(k + 1 + 1, (out.getD (k + 1 - 1) default).Lo - (n1 : Int) - 2, out ++ [DRange.mk ((out.getD (k + 1 - 1) default).Lo - (n1 : Int) - 2 - (n2 : Int)) ((out.getD (k + 1 - 1) default).Lo - (n1 : Int) - 2)], s2, e2), ?_, ?_, ?_⟩; rotate_left 2; (exact lessA_); (focus (dsimp only; omega)); (focus (exact ⟨by omega, q2, by dsimp only; omega, by dsimp only; rw [List.length_append, q4]; rfl, fun h => (by simp at h), fun _ h => absurd h he1⟩)))
                    | skip
              · rw [if_neg (fun h => hlo h.2)] at q2
                (repeat' first | refine s_callV [2, 0] (g1) (h := ?_) | refine s_callV [2, 0] (g3) (h := ?_) | (refine s_app (r := (out ++ [DRange.mk ((out.getD (k + 1 - 1) default).Lo - (n1 : Int) - 2 - (n2 : Int)) ((out.getD (k + 1 - 1) default).Lo - (n1 : Int) - 2)]).map encRange) ?_ ?_ ?_ ?_ (h := ?_); (focus (first | (rw [List.map_append]; rfl) | with_reducible rfl | with_reducible exact List.nil_append _ | with_reducible exact (List.map_append ..).symm | (rw [take_snoc (by assumption), List.map_append]; rfl) | (rw [List.map_append]; rfl) | (simp; done))); (focus (first | exact len_none | exact len_one rfl | exact len_two rfl rfl | exact len_enc (fun _ => rfl))); (focus ((conv => lhs; rhs; whnf); simp only [List.length_map, List.length_append, List.length_cons, List.length_nil, List.length_take]; omega)); (focus (simp only [List.length_map, List.length_append, List.length_cons, List.length_nil, List.length_take]; omega))) | (refine s_app0R (r := (out ++ [DRange.mk ((out.getD (k + 1 - 1) default).Lo - (n1 : Int) - 2 - (n2 : Int)) ((out.getD (k + 1 - 1) default).Lo - (n1 : Int) - 2)]).map encRange) ?_ ?_ ?_ ?_ (h := ?_); (focus (first | (rw [List.map_append]; rfl) | with_reducible rfl | with_reducible exact List.nil_append _ | with_reducible exact (List.map_append ..).symm | (rw [take_snoc (by assumption), List.map_append]; rfl) | (rw [List.map_append]; rfl) | (simp; done))); (focus (first | exact len_none | exact len_one rfl | exact len_two rfl rfl | exact len_enc (fun _ => rfl))); (focus ((conv => lhs; rhs; whnf); simp only [List.length_map, List.length_append, List.length_cons, List.length_nil, List.length_take]; omega)); (focus (simp only [List.length_map, List.length_append, List.length_cons, List.length_nil, List.length_take]; omega))) | (refine p_app (r := (out ++ [DRange.mk ((out.getD (k + 1 - 1) default).Lo - (n1 : Int) - 2 - (n2 : Int)) ((out.getD (k + 1 - 1) default).Lo - (n1 : Int) - 2)]).map encRange) ?_ ?_ ?_ ?_ (h := ?_); (focus (first | (rw [List.map_append]; rfl) | with_reducible rfl | with_reducible exact List.nil_append _ | with_reducible exact (List.map_append ..).symm | (rw [take_snoc (by assumption), List.map_append]; rfl) | (rw [List.map_append]; rfl) | (simp; done))); (focus (first | exact len_none | exact len_one rfl | exact len_two rfl rfl | exact len_enc (fun _ => rfl))); (focus ((conv => lhs; rhs; whnf); simp only [List.length_map, List.length_append, List.length_cons, List.length_nil, List.length_take]; omega)); (focus (simp only [List.length_map, List.length_append, List.length_cons, List.length_nil, List.length_take]; omega))) | (refine p_app0R (r := (out ++ [DRange.mk ((out.getD (k + 1 - 1) default).Lo - (n1 : Int) - 2 - (n2 : Int)) ((out.getD (k + 1 - 1) default).Lo - (n1 : Int) - 2)]).map encRange) ?_ ?_ ?_ ?_ (h := ?_); (focus (first | (rw [List.map_append]; rfl) | with_reducible rfl | with_reducible exact List.nil_append _ | with_reducible exact (List.map_append ..).symm | (rw [take_snoc (by assumption), List.map_append]; rfl) | (rw [List.map_append]; rfl) | (simp; done))); (focus (first | exact len_none | exact len_one rfl | exact len_two rfl rfl | exact len_enc (fun _ => rfl))); (focus ((conv => lhs; rhs; whnf); simp only [List.length_map, List.length_append, List.length_cons, List.length_nil, List.length_take]; omega)); (focus (simp only [List.length_map, List.length_append, List.length_cons, List.length_nil, List.length_take]; omega))) | (refine go_ ?_; ((repeat' first | exact True.intro | refine Two.mk ?_ ?_); all_goals intros)) | fail "")
                all_goals first
                  | (refine ⟨(k + 1 + 1, (out.getD (k + 1 - 1) default).Lo - (n1 : Int) - 2, out ++ [DRange.mk ((out.getD (k + 1 - 1) default).Lo - (n1 : Int) - 2 - (n2 : Int)) ((out.getD (k + 1 - 1) default).Lo - (n1 : Int) - 2)], s2, e2), ?_, ?_, ?_⟩; rotate_left 2; (exact lessA_); (focus (dsimp only; omega)); (focus (exact ⟨by omega, q2, by dsimp only; omega, by dsimp only; rw [List.length_append, q4]; rfl, fun h => (by simp at h), fun _ _ => by dsimp only; rw [last_lo (by omega)]; dsimp only; omega⟩)))
                  | skip
            · rw [show m + 1 - (k + 1) = 0 by omega] at q2
              have q2 : (out, s, (0 : Int)) = T := q2
              (repeat' first | (refine go_ ?_; ((repeat' first | exact True.intro | refine Two.mk ?_ ?_); all_goals intros)) | fail "")
              all_goals first
                | (refine ⟨(2, out, s, 0), ?_, ?_, ?_⟩; rotate_left 2; (exact lessA_); (focus (dsimp only; omega)); (focus (exact ⟨fun h => (by cases h), fun _ => q2.symm⟩)))
                | skip
          · rw [rgRun_err he] at q2
            (repeat' first | (refine go_ ?_; ((repeat' first | exact True.intro | refine Two.mk ?_ ?_); all_goals intros)) | fail "")
            all_goals first
              | (refine ⟨(2, out, s, e), ?_, ?_, ?_⟩; rotate_left 2; (exact lessA_); (focus (dsimp only; omega)); (focus (exact ⟨fun h => (by cases h), fun _ => q2.symm⟩)))
              | skip
    · try dsimp only
      obtain ⟨hp3, hp4⟩ := hp1 rfl
      rw [← hp4]
      clear hR hT hfit hlen g1 g2
      (repeat' first | (refine go_ ?_; ((repeat' first | exact True.intro | refine Two.mk ?_ ?_); all_goals intros)) | fail "")
      all_goals first
        | (exact endwA_)
        | skip
    · try dsimp only
      have hp2 := hp2 (by omega)
      subst hp2
      dsimp only at hfit hlen hR
      rw [← hR]
      unfold frFin
      dsimp only
      clear hR hT g1 g2
      by_cases he : ex = 0
      · rw [if_neg (by omega)]
        have hc := frameFault_fn ⟨2, 0, 0, fin, 0, rg, []⟩ ⟨by unfold I64; dsimp only; omega, by unfold I64; dsimp only; omega, by unfold I64; dsimp only; omega, by unfold I64; dsimp only; omega, by dsimp only; omega, hfit he, by simp⟩
        have he1 : encFrame ⟨2, 0, 0, fin, 0, rg, []⟩ = [.lit (.int .i64 2), .lit (.int .i64 0), .lit (.int .i64 0), .lit (.bool fin), .lit (.int .i64 0), .ro (rg.map encRange), .ro []] := rfl
        rw [he1] at hc
        have hc : Fn Try.prog 102 [.agg [.lit (.int .i64 2), .lit (.int .i64 0), .lit (.int .i64 0), .lit (.bool fin), .lit (.int .i64 0), .ro (rg.map encRange), .lit (.slice none 0 0)]] _ := fn_wk hc (.cons (.agg (.cons (.refl _) (.cons (.refl _) (.cons (.refl _) (.cons (.refl _) (.cons (.refl _) (.cons (.refl _) (.cons .nil .nil)))))))) .nil)
        generalize hq : frFlt ⟨2, 0, 0, fin, 0, rg, []⟩ = q at *
        (repeat' first | (refine s_snap (hc) (h := ?_)) | (refine p_snapO (hc) (h := ?_)) | (refine go_ ?_; ((repeat' first | exact True.intro | refine Two.mk ?_ ?_); all_goals intros)) | fail "")
        all_goals first
          | (rw [if_pos (by omega)]; (exact endwA_))
          | (rw [if_neg (by omega)]; (exact endwA_))
          | skip
      · rw [if_pos he]
        (repeat' first | (refine go_ ?_; ((repeat' first | exact True.intro | refine Two.mk ?_ ?_); all_goals intros)) | fail "")
        all_goals first
          | (exact endwA_)
          | skip
  exact absurd hKK hK2
end Go.Proofs.Ythpophgcmgdpjaa
