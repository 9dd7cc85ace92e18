/-
  frame.Decode: what it answers. No condition.
-/
import Derived.Test.YthpophgcmgdpjaaGo
import Derived.Test.YthpophgcmgdpjaaFrS
set_option linter.unusedVariables false
set_option linter.unusedSimpArgs false
set_option linter.unusedVariables false
namespace Go.Proofs.Ythpophgcmgdpjaa
set_option maxRecDepth 100000
attribute [local irreducible] Run RunL QStep GStep Fn Less PL FnM

theorem rgRun_fits {m : Nat} : ∀ {i : Nat} {hi : Int} {out : List DRange} {s : List UInt8} {e : Int}, (∀ y, y ∈ out → rGood y) → out.length = i → (i = 0 → 0 ≤ hi ∧ hi ≤ 4611686018427387903) → (rgRun m i hi out s e).2.2 = 0 → ∀ y, y ∈ (rgRun m i hi out s e).1 → rGood y := by
  induction m with
  | zero => intro i hi out s e h1 h2 h3 h4; exact h1
  | succ m ih =>
    intro i hi out s e h1 h2 h3 h4
    unfold rgRun at h4 ⊢
    by_cases he : e = 0
    · rw [if_neg (by omega)] at h4 ⊢
      by_cases he2 : (rgIt i hi out s e).2.2.2 = 0
      · have f := numR_facts s e
        have g := numR_facts (numR s e).2.1 (numR s e).2.2
        refine ih ?_ ?_ (fun h => by omega) h4
        · intro y hy
          by_cases hi0 : i = 0
          · have h3 := h3 hi0
            rw [show rgIt i hi out s e = _ from if_pos hi0] at hy he2
            dsimp only at hy he2
            rcases List.mem_append.1 hy with hy | hy
            · exact h1 y hy
            · rw [List.mem_singleton.1 hy]
              have : ¬ hi - ((numR s e).1 : Int) < 0 := fun c => by
                by_cases hx : (numR s e).2.2 = 0
                · rw [if_pos ⟨hx, c⟩] at he2; cases he2
                · rw [if_neg (fun x => hx x.1)] at he2; exact hx he2
              unfold rGood; dsimp only; omega
          · have hg := h1 _ (getD_mem (show i - 1 < out.length by omega))
            rw [show rgIt i hi out s e = _ from if_neg hi0] at hy he2
            dsimp only at hy he2
            rcases List.mem_append.1 hy with hy | hy
            · exact h1 y hy
            · rw [List.mem_singleton.1 hy]
              have : ¬ (out.getD (i - 1) default).Lo - ((numR s e).1 : Int) - 2 - ((numR (numR s e).2.1 (numR s e).2.2).1 : Int) < 0 := fun c => by
                by_cases hx : (numR (numR s e).2.1 (numR s e).2.2).2.2 = 0
                · rw [if_pos ⟨hx, c⟩] at he2; cases he2
                · rw [if_neg (fun x => hx x.1)] at he2; exact hx he2
              unfold rGood at *; dsimp only; omega
        · unfold rgIt; split <;> (dsimp only; rw [List.length_append, h2]; rfl)
      · rw [rgRun_err he2] at h4
        exact absurd h4 he2
    · rw [if_pos he] at h4 ⊢
      exact h1
theorem rgR_fits {s : List UInt8} (h : (rgR s 0).2.2 = 0) : ∀ y, y ∈ (rgR s 0).1 → wfRange y := by
  have f := numR_facts s 0
  unfold rgR rgGo at *
  intro y hy
  split at hy
  · cases hy
  · rename_i hc
    rw [if_neg hc] at h
    have := rgRun_fits (out := []) (fun y hy => by cases hy) rfl (fun _ => by omega) h y hy
    unfold rGood at this; unfold wfRange I64; omega
def fcells (z : FS) : List V := [.lit (.int .i64 z.1.Kind), .lit (.int .i64 z.1.Id), .lit (.int .i64 z.1.Off), .lit (.bool z.1.Fin), .lit (.int .i64 z.1.Code), .lit (.slice none 0 0), .lit (.slice none 0 0)]
theorem enc_nil {A : Nat} {z : FS} (h : Good A z) : encFrame z.1 = [.lit (.int .i64 z.1.Kind), .lit (.int .i64 z.1.Id), .lit (.int .i64 z.1.Off), .lit (.bool z.1.Fin), .lit (.int .i64 z.1.Code), .ro [], .ro []] := by
  unfold encFrame; rw [h.r, h.d]; rfl
set_option maxHeartbeats 4000000 in
theorem frameDecode_fn (l : List UInt8) (hl : l.length ≤ 1000000000000000) : Fn Try.prog 163 [.ro (l.map encB)] (encFr (frD l)) := by
  have g1 := number_fnm l.length l 0 (Nat.le_refl _) hl
  have f1 := numR_facts l 0
  rw [show encEyeA l.length l 0 = [.ro (l.map encB), .lit (.int .i64 0), .lit (.int .i64 0)] by unfold encEyeA; rw [Int.sub_self]] at g1
  unfold frD
  generalize numR l 0 = r at *
  obtain ⟨n, s, e⟩ := r
  dsimp only at g1 f1 ⊢
  unfold frHead
  by_cases he : e = 0
  case neg =>
    rw [if_pos he]
    refine fn_of_run (by kernel_rfl) Try.func163 rfl (by kernel_rfl) ?_
    (repeat' first | (refine s_callM [1] (g1) (h := ?_)) | (refine s_callM0 [1] (g1) (h := ?_)) | (refine p_callM [1] (g1) (h := ?_)) | (refine go_ ?_; ((repeat' first | exact True.intro | refine Two.mk ?_ ?_); all_goals intros)) | fail "")
    all_goals (exact endwA_)
  subst he
  rw [if_neg (by omega)]
  by_cases h8 : n = 8
  · rw [if_pos h8]
    subst h8
    refine fn_of_run (by kernel_rfl) Try.func163 rfl (by kernel_rfl) ?_
    (repeat' first | (refine s_callM [1] (g1) (h := ?_)) | (refine s_callM0 [1] (g1) (h := ?_)) | (refine p_callM [1] (g1) (h := ?_)) | (refine go_ ?_; ((repeat' first | exact True.intro | refine Two.mk ?_ ?_); all_goals intros)) | fail "")
    all_goals (exact endwA_)
  rw [if_neg h8]
  refine fn_of_run (by kernel_rfl) Try.func163 rfl (by kernel_rfl) ?_
  (repeat' first | (refine s_callM [1] (g1) (h := ?_)) | (refine s_callM0 [1] (g1) (h := ?_)) | (refine p_callM [1] (g1) (h := ?_)) | (refine goU_ 6 ?_; ((repeat' first | exact True.intro | refine Two.mk ?_ ?_); all_goals intros)) | fail "")
  refine r_cut (fun x : Int × Bool => ⟨[(2, .ptr 0 0 0 0), (5, .ptr 1 0 0 0), (6, .ptr 2 0 0 0)], [(0, some (.box 163 [.lit (.int .i64 0), .lit (.int .i64 0), .lit (.int .i64 0), .lit (.bool false), .lit (.int .i64 0), .lit (.slice none 0 0), .lit (.slice none 0 0)])), (1, some (.box 267 (encEyeA l.length s 0))), (2, some (.box 163 [.lit (.int .i64 x.1), .lit (.int .i64 0), .lit (.int .i64 0), .lit (.bool x.2), .lit (.int .i64 0), .lit (.slice none 0 0), .lit (.slice none 0 0)]))], 3, Try.f163.ntmps⟩)
    (fun x => x = ((if n = 14 ∨ n = 15 then (8 : Int) else (n : Int)), decide (n = 15))) ?_ ?_
  · by_cases h14 : n = 14
    · subst h14
      (repeat' first | (refine go_ ?_; ((repeat' first | exact True.intro | refine Two.mk ?_ ?_); all_goals intros)) | fail "")
      all_goals first
        | (refine ⟨((8 : Int), false), ?_, ?_⟩; rotate_left 1; (exact lessA_); (focus (rfl)))
        | skip
    · by_cases h15 : n = 15
      · subst h15
        (repeat' first | (refine go_ ?_; ((repeat' first | exact True.intro | refine Two.mk ?_ ?_); all_goals intros)) | fail "")
        all_goals first
          | (refine ⟨((8 : Int), true), ?_, ?_⟩; rotate_left 1; (exact lessA_); (focus (rfl)))
          | skip
      · rw [if_neg (by omega), decide_eq_false h15]
        (repeat' first | (refine go_ ?_; ((repeat' first | exact True.intro | refine Two.mk ?_ ?_); all_goals intros)) | fail "")
        all_goals first
          | (refine ⟨((n : Int), false), ?_, ?_⟩; rotate_left 1; (exact lessA_); (focus (rfl)))
          | skip
  rintro ⟨K, fin⟩ hK
  rw [show (if n = 14 ∨ n = 15 then (8 : Int) else (n : Int)) = K from (congrArg Prod.fst hK).symm, show decide (n = 15) = fin from (congrArg Prod.snd hK).symm]
  have hKi : 0 ≤ K ∧ K ≤ 4611686018427387903 := by
    have := congrArg Prod.fst hK
    dsimp only at this
    split at this <;> omega
  clear hK g1
  dsimp only
  have hs := f1.1
  clear f1 h8
  unfold frBody
  have h2 := partsOf_fn K
  by_cases hko : kOk K = false
  · rw [if_pos hko]
    rw [hko] at h2
    unfold encPs at h2
    (repeat' first | (refine s_call (h2) (h := ?_)) | (refine p_call (h2) (h := ?_)) | (refine go_ ?_; ((repeat' first | exact True.intro | refine Two.mk ?_ ?_); all_goals intros)) | fail "")
    all_goals (exact endwA_)
  rw [if_neg hko]
  rw [show kOk K = true by simpa using hko] at h2
  clear hko
  by_cases hK2 : K = 2
  · subst hK2
    rw [if_pos rfl, show seqS (hasB 2) (sRg (⟨2, 0, 0, fin, 0, [], []⟩, s, 0)) = sRg (⟨2, 0, 0, fin, 0, [], []⟩, s, 0) from rfl]
    rw [show encPs (hasB 2) = [.lit (.bool false), .lit (.bool false), .lit (.bool false), .lit (.bool false), .lit (.bool false), .lit (.bool false)] from rfl] at h2
    have gr := ranges_fnm l.length s hs hl
    have hfit := @rgR_fits s
    have hlen := rgR_len hs
    unfold sRg frFin
    dsimp only
    generalize rgR s 0 = r at *
    obtain ⟨rg, s2, e2⟩ := r
    dsimp only at gr hfit hlen ⊢
    by_cases he : e2 = 0
    · subst he
      rw [if_neg (by omega)]
      have hc := frameCheck_fn ⟨2, 0, 0, fin, 0, rg, []⟩ ⟨by unfold I64; dsimp only; omega, by unfold I64; dsimp only; omega, by unfold I64; dsimp only; omega, by unfold I64; dsimp only; omega, by dsimp only; omega, hfit rfl, by simp⟩
      have he1 : encFrame ⟨2, 0, 0, fin, 0, rg, []⟩ = [.lit (.int .i64 2), .lit (.int .i64 0), .lit (.int .i64 0), .lit (.bool fin), .lit (.int .i64 0), .ro (rg.map encRange), .ro []] := rfl
      rw [he1] at hc
      generalize hq : frFlt ⟨2, 0, 0, fin, 0, rg, []⟩ = q at *
      (repeat' first | (refine s_call (h2) (h := ?_)) | (refine p_call (h2) (h := ?_)) | (refine s_callM [1] (gr) (h := ?_)) | (refine s_callM0 [1] (gr) (h := ?_)) | (refine p_callM [1] (gr) (h := ?_)) | (refine s_call (hc) (h := ?_)) | (refine p_call (hc) (h := ?_)) | (refine go_ ?_; ((repeat' first | exact True.intro | refine Two.mk ?_ ?_); all_goals intros)) | fail "")
      all_goals first
        | (rw [if_pos (by omega)]; (exact endwA_))
        | (rw [if_neg (by omega)]; (exact endwA_))
        | skip
    · rw [if_pos he]
      (repeat' first | (refine s_call (h2) (h := ?_)) | (refine p_call (h2) (h := ?_)) | (refine s_callM [1] (gr) (h := ?_)) | (refine s_callM0 [1] (gr) (h := ?_)) | (refine p_callM [1] (gr) (h := ?_)) | (refine go_ ?_; ((repeat' first | exact True.intro | refine Two.mk ?_ ?_); all_goals intros)) | fail "")
      all_goals first
        | (exact endwA_)
        | skip
  rw [if_neg hK2]
  generalize hz0 : ((⟨K, 0, 0, fin, 0, [], []⟩, s, 0) : FS) = z0
  have q0 : Good l.length z0 := by
    rw [← hz0]
    exact ⟨by unfold I64; dsimp only; omega, by unfold I64; dsimp only; omega, by unfold I64; dsimp only; omega, by unfold I64; dsimp only; omega, rfl, rfl, hs⟩
  have hzc : z0.1.Code = 0 := by rw [← hz0]
  unfold seqS
  unfold encPs at h2
  generalize hasI (hasB K) 105 = bi at *
  generalize hasI (hasB K) 111 = bo at *
  generalize (hasI (hasB K) 99 || hasI (hasB K) 119) = bc at *
  generalize hasI (hasB K) 119 = bw at *
  generalize hasI (hasB K) 100 = bd at *
  generalize hasI (hasB K) 102 = bf at *
  subst hz0
  (repeat' first | (refine s_call (h2) (h := ?_)) | (refine p_call (h2) (h := ?_)) | (refine goU_ 16 ?_; ((repeat' first | exact True.intro | refine Two.mk ?_ ?_); all_goals intros)) | fail "")
  refine r_cut (fun _ : Unit => ⟨[(2, .ptr 0 0 0 0), (5, .ptr 1 0 0 0), (6, .ptr 2 0 0 0), (7, .ptr 3 0 0 0)], [(0, some (.box 163 [.lit (.int .i64 0), .lit (.int .i64 0), .lit (.int .i64 0), .lit (.bool false), .lit (.int .i64 0), .lit (.slice none 0 0), .lit (.slice none 0 0)])), (1, some (.box 267 (encEyeA l.length (optS bi sId (⟨K, 0, 0, fin, 0, [], []⟩, s, 0)).2.1 (optS bi sId (⟨K, 0, 0, fin, 0, [], []⟩, s, 0)).2.2))), (2, some (.box 163 (fcells (optS bi sId (⟨K, 0, 0, fin, 0, [], []⟩, s, 0))))), (3, some (.box 227 [.lit (.bool bi), .lit (.bool bo), .lit (.bool bc), .lit (.bool bd), .lit (.bool bf), .lit (.bool bw)]))], 4, Try.f163.ntmps⟩) (fun _ => True) ?_ ?_
  · have g := number_fnm l.length s 0 hs hl
    clear h2
    cases bi
    · (repeat' first | (refine go_ ?_; ((repeat' first | exact True.intro | refine Two.mk ?_ ?_); all_goals intros)) | fail "")
      all_goals first
        | (refine ⟨(), ?_, ?_⟩; rotate_left 1; (exact lessA_); (focus (trivial)))
        | skip
    · (repeat' first | (refine s_callM [1] (g) (h := ?_)) | (refine s_callM0 [1] (g) (h := ?_)) | (refine p_callM [1] (g) (h := ?_)) | (refine go_ ?_; ((repeat' first | exact True.intro | refine Two.mk ?_ ?_); all_goals intros)) | fail "")
      all_goals first
        | (refine ⟨(), ?_, ?_⟩; rotate_left 1; (exact lessA_); (focus (trivial)))
        | skip
  intro _ _
  have q1 : Good l.length (optS bi sId (⟨K, 0, 0, fin, 0, [], []⟩, s, 0)) := good_opt q0 (good_id q0)
  have c1 : (optS bi sId (⟨K, 0, 0, fin, 0, [], []⟩, s, 0)).1.Code = 0 := by cases bi <;> rfl
  generalize optS bi sId (⟨K, 0, 0, fin, 0, [], []⟩, s, 0) = z1 at *
  clear q0 hzc h2
  (repeat' first | (refine goU_ 18 ?_; ((repeat' first | exact True.intro | refine Two.mk ?_ ?_); all_goals intros)) | fail "")
  refine r_cut (fun _ : Unit => ⟨[(2, .ptr 0 0 0 0), (5, .ptr 1 0 0 0), (6, .ptr 2 0 0 0), (7, .ptr 3 0 0 0)], [(0, some (.box 163 [.lit (.int .i64 0), .lit (.int .i64 0), .lit (.int .i64 0), .lit (.bool false), .lit (.int .i64 0), .lit (.slice none 0 0), .lit (.slice none 0 0)])), (1, some (.box 267 (encEyeA l.length (optS bo sOf z1).2.1 (optS bo sOf z1).2.2))), (2, some (.box 163 (fcells (optS bo sOf z1)))), (3, some (.box 227 [.lit (.bool bi), .lit (.bool bo), .lit (.bool bc), .lit (.bool bd), .lit (.bool bf), .lit (.bool bw)]))], 4, Try.f163.ntmps⟩) (fun _ => True) ?_ ?_
  · have g := number_fnm l.length z1.2.1 z1.2.2 q1.l hl
    cases bo
    · (repeat' first | (refine go_ ?_; ((repeat' first | exact True.intro | refine Two.mk ?_ ?_); all_goals intros)) | fail "")
      all_goals first
        | (refine ⟨(), ?_, ?_⟩; rotate_left 1; (exact lessA_); (focus (trivial)))
        | skip
    · (repeat' first | (refine s_callM [1] (g) (h := ?_)) | (refine s_callM0 [1] (g) (h := ?_)) | (refine p_callM [1] (g) (h := ?_)) | (refine go_ ?_; ((repeat' first | exact True.intro | refine Two.mk ?_ ?_); all_goals intros)) | fail "")
      all_goals first
        | (refine ⟨(), ?_, ?_⟩; rotate_left 1; (exact lessA_); (focus (trivial)))
        | skip
  intro _ _
  have q2 : Good l.length (optS bo sOf z1) := good_opt q1 (good_of q1)
  have c2 : (optS bo sOf z1).1.Code = 0 := by cases bo <;> exact c1
  generalize optS bo sOf z1 = z2 at *
  clear q1 c1
  (repeat' first | (refine goU_ 20 ?_; ((repeat' first | exact True.intro | refine Two.mk ?_ ?_); all_goals intros)) | fail "")
  refine r_cut (fun _ : Unit => ⟨[(2, .ptr 0 0 0 0), (5, .ptr 1 0 0 0), (6, .ptr 2 0 0 0), (7, .ptr 3 0 0 0)], [(0, some (.box 163 [.lit (.int .i64 0), .lit (.int .i64 0), .lit (.int .i64 0), .lit (.bool false), .lit (.int .i64 0), .lit (.slice none 0 0), .lit (.slice none 0 0)])), (1, some (.box 267 (encEyeA l.length (wcS bw bc z2).2.1 (wcS bw bc z2).2.2))), (2, some (.box 163 (fcells (wcS bw bc z2)))), (3, some (.box 227 [.lit (.bool bi), .lit (.bool bo), .lit (.bool bc), .lit (.bool bd), .lit (.bool bf), .lit (.bool bw)]))], 4, Try.f163.ntmps⟩) (fun _ => True) ?_ ?_
  · have g := number_fnm l.length z2.2.1 z2.2.2 q2.l hl
    have gt := take_fnm l.length 8 z2.2.1 z2.2.2 q2.l hl
    have ft := (takeR_facts 8 z2.2.1 z2.2.2).2.1
    cases bw
    · cases bc
      · (repeat' first | (refine go_ ?_; ((repeat' first | exact True.intro | refine Two.mk ?_ ?_); all_goals intros)) | fail "")
        all_goals first
          | (refine ⟨(), ?_, ?_⟩; rotate_left 1; (exact lessA_); (focus (trivial)))
          | skip
      · (repeat' first | (refine s_callM [1] (g) (h := ?_)) | (refine s_callM0 [1] (g) (h := ?_)) | (refine p_callM [1] (g) (h := ?_)) | (refine go_ ?_; ((repeat' first | exact True.intro | refine Two.mk ?_ ?_); all_goals intros)) | fail "")
        all_goals first
          | (refine ⟨(), ?_, ?_⟩; rotate_left 1; (exact lessA_); (focus (trivial)))
          | skip
    · generalize hz3 : wcS true bc z2 = z3
      have e1 : z3.1.Code = IntKind.i64.wrap ((numG 0 (takeR 8 z2.2.1 z2.2.2).1 : Nat) : Int) := by rw [← hz3]; rfl
      have e2 : z3.2.1 = (takeR 8 z2.2.1 z2.2.2).2.1 := by rw [← hz3]; rfl
      have e3 : z3.2.2 = (takeR 8 z2.2.1 z2.2.2).2.2 := by rw [← hz3]; rfl
      have e4 : z3.1.Kind = z2.1.Kind ∧ z3.1.Id = z2.1.Id ∧ z3.1.Off = z2.1.Off ∧ z3.1.Fin = z2.1.Fin := by rw [← hz3]; exact ⟨rfl, rfl, rfl, rfl⟩
      generalize takeR 8 z2.2.1 z2.2.2 = tk at *
      obtain ⟨r, s3, e5⟩ := tk
      dsimp only at e1 e2 e3 gt ft
      (repeat' first | (refine s_callM [1] (gt) (h := ?_)) | (refine s_callM0 [1] (gt) (h := ?_)) | (refine p_callM [1] (gt) (h := ?_)) | (refine go_ ?_; ((repeat' first | exact True.intro | refine Two.mk ?_ ?_); all_goals intros)) | fail "")
      refine r_for (fun j : Nat => ⟨[(2, .ptr 0 0 0 0), (5, .ptr 1 0 0 0), (6, .ptr 2 0 0 0), (7, .ptr 3 0 0 0), (76, .ro (r.map encB)), (77, .lit (.int .i64 r.length)), (78, .lit (.int .i64 j))], [(0, some (.box 163 [.lit (.int .i64 0), .lit (.int .i64 0), .lit (.int .i64 0), .lit (.bool false), .lit (.int .i64 0), .lit (.slice none 0 0), .lit (.slice none 0 0)])), (1, some (.box 267 (encEyeA l.length s3 e5))), (2, some (.box 163 [.lit (.int .i64 z2.1.Kind), .lit (.int .i64 z2.1.Id), .lit (.int .i64 z2.1.Off), .lit (.bool z2.1.Fin), .lit (.int .i64 (IntKind.i64.wrap ((numG 0 (r.take j) : Nat) : Int))), .lit (.slice none 0 0), .lit (.slice none 0 0)])), (3, some (.box 227 [.lit (.bool bi), .lit (.bool bo), .lit (.bool bc), .lit (.bool bd), .lit (.bool bf), .lit (.bool true)]))], 4, Try.f163.ntmps⟩)
        (fun j => j ≤ r.length) (fun j => r.length - j) 0 (Nat.zero_le _) (by rw [show IntKind.i64.wrap ((numG 0 (r.take 0) : Nat) : Int) = z2.1.Code from c2.symm]; (exact lessA_)) ?_
      intro j hj
      by_cases hjr : j < r.length
      · have hb := (r.getD j default).toNat_lt
        have hw := numG_snocW (numG 0 (r.take j)) (r.getD j default).toNat (by omega)
        rw [show numG 0 (r.take j) * 256 + (r.getD j default).toNat = numG 0 (r.take (j + 1)) by rw [take_snoc hjr, numG_snoc]] at hw
        (repeat' first | (refine go_ ?_; ((repeat' first | exact True.intro | refine Two.mk ?_ ?_); all_goals intros)) | fail "")
        all_goals (rw [hw]; first
          | (refine ⟨j + 1, ?_, ?_, ?_⟩; rotate_left 2; (exact lessA_); (focus (omega)); (focus (omega)))
          | skip)
      · rw [List.take_of_length_le (by omega)]
        rw [← e1]
        obtain ⟨e6, e7, e8, e9⟩ := e4
        unfold fcells
        rw [e6, e7, e8, e9, e2, e3]
        (repeat' first | (refine go_ ?_; ((repeat' first | exact True.intro | refine Two.mk ?_ ?_); all_goals intros)) | fail "")
        all_goals first
          | (refine ⟨(), ?_, ?_⟩; rotate_left 1; (exact lessA_); (focus (trivial)))
          | skip
  intro _ _
  have q3 : Good l.length (wcS bw bc z2) := good_wc q2
  generalize wcS bw bc z2 = z3 at *
  clear q2 c2
  cases bd
  · rw [show optS false sDa z3 = z3 from rfl]
    have hc := frameCheck_fn z3.1 ⟨q3.k, q3.i, q3.o, q3.c, by rw [q3.r]; simp, by rw [q3.r]; intro y hy; (cases hy), by rw [q3.d]; simp⟩
    have he1 := enc_nil q3
    rw [he1] at hc
    unfold frFin
    generalize hq : frFlt z3.1 = q at *
    by_cases he : z3.2.2 = 0
    · rw [if_neg (by omega)]
      by_cases hq0 : q = 0
      · rw [if_neg (by omega)]
        unfold encFr
        dsimp only
        rw [he1]
        subst hq0
        (repeat' first | (refine s_call (hc) (h := ?_)) | (refine p_call (hc) (h := ?_)) | (refine go_ ?_; ((repeat' first | exact True.intro | refine Two.mk ?_ ?_); all_goals intros)) | fail "")
        all_goals first
          | (exact endwA_)
          | skip
      · rw [if_pos hq0]
        (repeat' first | (refine s_call (hc) (h := ?_)) | (refine p_call (hc) (h := ?_)) | (refine go_ ?_; ((repeat' first | exact True.intro | refine Two.mk ?_ ?_); all_goals intros)) | fail "")
        all_goals first
          | (exact endwA_)
          | skip
    · rw [if_pos he]
      (repeat' first | (refine go_ ?_; ((repeat' first | exact True.intro | refine Two.mk ?_ ?_); all_goals intros)) | fail "")
      all_goals first
        | (exact endwA_)
        | skip
  · rw [show optS true sDa z3 = sDa z3 from rfl]
    have g := number_fnm l.length z3.2.1 z3.2.2 q3.l hl
    have hdl := data_len z3
    have f4 := numR_facts z3.2.1 z3.2.2
    obtain ⟨_, d2, d3⟩ := daE_facts z3
    have ql := q3.l
    have hsd : sDa z3 = ({ z3.1 with Data := (takeR (numR z3.2.1 z3.2.2).1 (numR z3.2.1 z3.2.2).2.1 (daE z3)).1 }, (takeR (numR z3.2.1 z3.2.2).1 (numR z3.2.1 z3.2.2).2.1 (daE z3)).2.1, (takeR (numR z3.2.1 z3.2.2).1 (numR z3.2.1 z3.2.2).2.1 (daE z3)).2.2) := rfl
    have d2' : 120 < (numR z3.2.1 z3.2.2).1 → daE z3 = failR (numR z3.2.1 z3.2.2).2.2 1 := fun h => if_pos h
    clear d2
    have d2 := d2'
    clear d2'
    generalize daE z3 = dE at *
    generalize numR z3.2.1 z3.2.2 = r at *
    obtain ⟨n4, s4, e4⟩ := r
    dsimp only at g f4 d2 d3 hsd
    by_cases h120 : 120 < n4
    · rw [d2 h120] at hsd
      have gf := fail_fnm l.length s4 e4 1 (by omega)
      have gt := take_fnm l.length n4 s4 (failR e4 1) (by omega) hl
      have ft := takeR_facts n4 s4 (failR e4 1)
      generalize takeR n4 s4 (failR e4 1) = t at *
      obtain ⟨tk, s5, e5⟩ := t
      dsimp only at gt hsd hdl ft
      rw [hsd] at hdl ⊢
      dsimp only at hdl
      have hc := frameCheck_fn { z3.1 with Data := tk } ⟨q3.k, q3.i, q3.o, q3.c, by dsimp only; rw [q3.r]; simp, by dsimp only; rw [q3.r]; intro y hy; (cases hy), by dsimp only; omega⟩
      have he1 : encFrame { z3.1 with Data := tk } = [.lit (.int .i64 z3.1.Kind), .lit (.int .i64 z3.1.Id), .lit (.int .i64 z3.1.Off), .lit (.bool z3.1.Fin), .lit (.int .i64 z3.1.Code), .ro [], .ro (tk.map encB)] := by
        unfold encFrame; dsimp only; rw [q3.r]; rfl
      rw [he1] at hc
      unfold frFin
      generalize hq : frFlt { z3.1 with Data := tk } = q at *
      by_cases he : e5 = 0
      · rw [if_neg (by (try dsimp only); omega)]
        by_cases hq0 : q = 0
        · rw [if_neg (by (try dsimp only); omega)]
          unfold encFr
          dsimp only
          rw [he1]
          subst hq0
          (repeat' first | (refine s_callM [1] (g) (h := ?_)) | (refine s_callM0 [1] (g) (h := ?_)) | (refine p_callM [1] (g) (h := ?_)) | (refine s_callM [1] (gf) (h := ?_)) | (refine s_callM0 [1] (gf) (h := ?_)) | (refine p_callM [1] (gf) (h := ?_)) | (refine s_callM [1] (gt) (h := ?_)) | (refine s_callM0 [1] (gt) (h := ?_)) | (refine p_callM [1] (gt) (h := ?_)) | (refine s_appro (r := tk.map encB) ?_ ?_ ?_ ?_ (h := ?_); (focus (first | with_reducible rfl | with_reducible exact List.nil_append _ | with_reducible exact (List.map_append ..).symm | (rw [take_snoc (by assumption), List.map_append]; rfl) | (rw [List.map_append]; rfl) | (simp; done))); (focus (first | exact len_none | exact len_one rfl | exact len_two rfl rfl | exact len_enc (fun _ => rfl))); (focus ((conv => lhs; rhs; whnf); simp only [List.length_map, List.length_append, List.length_cons, List.length_nil, List.length_take]; omega)); (focus (simp only [List.length_map, List.length_append, List.length_cons, List.length_nil, List.length_take]; omega))) | (refine s_app0roR (r := tk.map encB) ?_ ?_ ?_ ?_ (h := ?_); (focus (first | with_reducible rfl | with_reducible exact List.nil_append _ | with_reducible exact (List.map_append ..).symm | (rw [take_snoc (by assumption), List.map_append]; rfl) | (rw [List.map_append]; rfl) | (simp; done))); (focus (first | exact len_none | exact len_one rfl | exact len_two rfl rfl | exact len_enc (fun _ => rfl))); (focus ((conv => lhs; rhs; whnf); simp only [List.length_map, List.length_append, List.length_cons, List.length_nil, List.length_take]; omega)); (focus (simp only [List.length_map, List.length_append, List.length_cons, List.length_nil, List.length_take]; omega))) | (refine p_appro (r := tk.map encB) ?_ ?_ ?_ ?_ (h := ?_); (focus (first | with_reducible rfl | with_reducible exact List.nil_append _ | with_reducible exact (List.map_append ..).symm | (rw [take_snoc (by assumption), List.map_append]; rfl) | (rw [List.map_append]; rfl) | (simp; done))); (focus (first | exact len_none | exact len_one rfl | exact len_two rfl rfl | exact len_enc (fun _ => rfl))); (focus ((conv => lhs; rhs; whnf); simp only [List.length_map, List.length_append, List.length_cons, List.length_nil, List.length_take]; omega)); (focus (simp only [List.length_map, List.length_append, List.length_cons, List.length_nil, List.length_take]; omega))) | (refine p_app0roR (r := tk.map encB) ?_ ?_ ?_ ?_ (h := ?_); (focus (first | with_reducible rfl | with_reducible exact List.nil_append _ | with_reducible exact (List.map_append ..).symm | (rw [take_snoc (by assumption), List.map_append]; rfl) | (rw [List.map_append]; rfl) | (simp; done))); (focus (first | exact len_none | exact len_one rfl | exact len_two rfl rfl | exact len_enc (fun _ => rfl))); (focus ((conv => lhs; rhs; whnf); simp only [List.length_map, List.length_append, List.length_cons, List.length_nil, List.length_take]; omega)); (focus (simp only [List.length_map, List.length_append, List.length_cons, List.length_nil, List.length_take]; omega))) | (refine s_call (hc) (h := ?_)) | (refine p_call (hc) (h := ?_)) | (refine go_ ?_; ((repeat' first | exact True.intro | refine Two.mk ?_ ?_); all_goals intros)) | fail "")
          all_goals first
            | (exact endwA_)
            | skip
        · rw [if_pos (by (try dsimp only); omega)]
          try dsimp only
          try rw [hq]
          (repeat' first | (refine s_callM [1] (g) (h := ?_)) | (refine s_callM0 [1] (g) (h := ?_)) | (refine p_callM [1] (g) (h := ?_)) | (refine s_callM [1] (gf) (h := ?_)) | (refine s_callM0 [1] (gf) (h := ?_)) | (refine p_callM [1] (gf) (h := ?_)) | (refine s_callM [1] (gt) (h := ?_)) | (refine s_callM0 [1] (gt) (h := ?_)) | (refine p_callM [1] (gt) (h := ?_)) | (refine s_appro (r := tk.map encB) ?_ ?_ ?_ ?_ (h := ?_); (focus (first | with_reducible rfl | with_reducible exact List.nil_append _ | with_reducible exact (List.map_append ..).symm | (rw [take_snoc (by assumption), List.map_append]; rfl) | (rw [List.map_append]; rfl) | (simp; done))); (focus (first | exact len_none | exact len_one rfl | exact len_two rfl rfl | exact len_enc (fun _ => rfl))); (focus ((conv => lhs; rhs; whnf); simp only [List.length_map, List.length_append, List.length_cons, List.length_nil, List.length_take]; omega)); (focus (simp only [List.length_map, List.length_append, List.length_cons, List.length_nil, List.length_take]; omega))) | (refine s_app0roR (r := tk.map encB) ?_ ?_ ?_ ?_ (h := ?_); (focus (first | with_reducible rfl | with_reducible exact List.nil_append _ | with_reducible exact (List.map_append ..).symm | (rw [take_snoc (by assumption), List.map_append]; rfl) | (rw [List.map_append]; rfl) | (simp; done))); (focus (first | exact len_none | exact len_one rfl | exact len_two rfl rfl | exact len_enc (fun _ => rfl))); (focus ((conv => lhs; rhs; whnf); simp only [List.length_map, List.length_append, List.length_cons, List.length_nil, List.length_take]; omega)); (focus (simp only [List.length_map, List.length_append, List.length_cons, List.length_nil, List.length_take]; omega))) | (refine p_appro (r := tk.map encB) ?_ ?_ ?_ ?_ (h := ?_); (focus (first | with_reducible rfl | with_reducible exact List.nil_append _ | with_reducible exact (List.map_append ..).symm | (rw [take_snoc (by assumption), List.map_append]; rfl) | (rw [List.map_append]; rfl) | (simp; done))); (focus (first | exact len_none | exact len_one rfl | exact len_two rfl rfl | exact len_enc (fun _ => rfl))); (focus ((conv => lhs; rhs; whnf); simp only [List.length_map, List.length_append, List.length_cons, List.length_nil, List.length_take]; omega)); (focus (simp only [List.length_map, List.length_append, List.length_cons, List.length_nil, List.length_take]; omega))) | (refine p_app0roR (r := tk.map encB) ?_ ?_ ?_ ?_ (h := ?_); (focus (first | with_reducible rfl | with_reducible exact List.nil_append _ | with_reducible exact (List.map_append ..).symm | (rw [take_snoc (by assumption), List.map_append]; rfl) | (rw [List.map_append]; rfl) | (simp; done))); (focus (first | exact len_none | exact len_one rfl | exact len_two rfl rfl | exact len_enc (fun _ => rfl))); (focus ((conv => lhs; rhs; whnf); simp only [List.length_map, List.length_append, List.length_cons, List.length_nil, List.length_take]; omega)); (focus (simp only [List.length_map, List.length_append, List.length_cons, List.length_nil, List.length_take]; omega))) | (refine s_call (hc) (h := ?_)) | (refine p_call (hc) (h := ?_)) | (refine go_ ?_; ((repeat' first | exact True.intro | refine Two.mk ?_ ?_); all_goals intros)) | fail "")
          all_goals first
            | (exact endwA_)
            | skip
      · rw [if_pos (by (try dsimp only); omega)]
        (repeat' first | (refine s_callM [1] (g) (h := ?_)) | (refine s_callM0 [1] (g) (h := ?_)) | (refine p_callM [1] (g) (h := ?_)) | (refine s_callM [1] (gf) (h := ?_)) | (refine s_callM0 [1] (gf) (h := ?_)) | (refine p_callM [1] (gf) (h := ?_)) | (refine s_callM [1] (gt) (h := ?_)) | (refine s_callM0 [1] (gt) (h := ?_)) | (refine p_callM [1] (gt) (h := ?_)) | (refine s_appro (r := tk.map encB) ?_ ?_ ?_ ?_ (h := ?_); (focus (first | with_reducible rfl | with_reducible exact List.nil_append _ | with_reducible exact (List.map_append ..).symm | (rw [take_snoc (by assumption), List.map_append]; rfl) | (rw [List.map_append]; rfl) | (simp; done))); (focus (first | exact len_none | exact len_one rfl | exact len_two rfl rfl | exact len_enc (fun _ => rfl))); (focus ((conv => lhs; rhs; whnf); simp only [List.length_map, List.length_append, List.length_cons, List.length_nil, List.length_take]; omega)); (focus (simp only [List.length_map, List.length_append, List.length_cons, List.length_nil, List.length_take]; omega))) | (refine s_app0roR (r := tk.map encB) ?_ ?_ ?_ ?_ (h := ?_); (focus (first | with_reducible rfl | with_reducible exact List.nil_append _ | with_reducible exact (List.map_append ..).symm | (rw [take_snoc (by assumption), List.map_append]; rfl) | (rw [List.map_append]; rfl) | (simp; done))); (focus (first | exact len_none | exact len_one rfl | exact len_two rfl rfl | exact len_enc (fun _ => rfl))); (focus ((conv => lhs; rhs; whnf); simp only [List.length_map, List.length_append, List.length_cons, List.length_nil, List.length_take]; omega)); (focus (simp only [List.length_map, List.length_append, List.length_cons, List.length_nil, List.length_take]; omega))) | (refine p_appro (r := tk.map encB) ?_ ?_ ?_ ?_ (h := ?_); (focus (first | with_reducible rfl | with_reducible exact List.nil_append _ | with_reducible exact (List.map_append ..).symm | (rw [take_snoc (by assumption), List.map_append]; rfl) | (rw [List.map_append]; rfl) | (simp; done))); (focus (first | exact len_none | exact len_one rfl | exact len_two rfl rfl | exact len_enc (fun _ => rfl))); (focus ((conv => lhs; rhs; whnf); simp only [List.length_map, List.length_append, List.length_cons, List.length_nil, List.length_take]; omega)); (focus (simp only [List.length_map, List.length_append, List.length_cons, List.length_nil, List.length_take]; omega))) | (refine p_app0roR (r := tk.map encB) ?_ ?_ ?_ ?_ (h := ?_); (focus (first | with_reducible rfl | with_reducible exact List.nil_append _ | with_reducible exact (List.map_append ..).symm | (rw [take_snoc (by assumption), List.map_append]; rfl) | (rw [List.map_append]; rfl) | (simp; done))); (focus (first | exact len_none | exact len_one rfl | exact len_two rfl rfl | exact len_enc (fun _ => rfl))); (focus ((conv => lhs; rhs; whnf); simp only [List.length_map, List.length_append, List.length_cons, List.length_nil, List.length_take]; omega)); (focus (simp only [List.length_map, List.length_append, List.length_cons, List.length_nil, List.length_take]; omega))) | (refine go_ ?_; ((repeat' first | exact True.intro | refine Two.mk ?_ ?_); all_goals intros)) | fail "")
        all_goals first
          | (exact endwA_)
          | skip
    · rw [d3 h120] at hsd
      skip
      have gt := take_fnm l.length n4 s4 (e4) (by omega) hl
      have ft := takeR_facts n4 s4 (e4)
      generalize takeR n4 s4 (e4) = t at *
      obtain ⟨tk, s5, e5⟩ := t
      dsimp only at gt hsd hdl ft
      rw [hsd] at hdl ⊢
      dsimp only at hdl
      have hc := frameCheck_fn { z3.1 with Data := tk } ⟨q3.k, q3.i, q3.o, q3.c, by dsimp only; rw [q3.r]; simp, by dsimp only; rw [q3.r]; intro y hy; (cases hy), by dsimp only; omega⟩
      have he1 : encFrame { z3.1 with Data := tk } = [.lit (.int .i64 z3.1.Kind), .lit (.int .i64 z3.1.Id), .lit (.int .i64 z3.1.Off), .lit (.bool z3.1.Fin), .lit (.int .i64 z3.1.Code), .ro [], .ro (tk.map encB)] := by
        unfold encFrame; dsimp only; rw [q3.r]; rfl
      rw [he1] at hc
      unfold frFin
      generalize hq : frFlt { z3.1 with Data := tk } = q at *
      by_cases he : e5 = 0
      · rw [if_neg (by (try dsimp only); omega)]
        by_cases hq0 : q = 0
        · rw [if_neg (by (try dsimp only); omega)]
          unfold encFr
          dsimp only
          rw [he1]
          subst hq0
          (repeat' first | (refine s_callM [1] (g) (h := ?_)) | (refine s_callM0 [1] (g) (h := ?_)) | (refine p_callM [1] (g) (h := ?_)) | (refine s_callM [1] (gt) (h := ?_)) | (refine s_callM0 [1] (gt) (h := ?_)) | (refine p_callM [1] (gt) (h := ?_)) | (refine s_appro (r := tk.map encB) ?_ ?_ ?_ ?_ (h := ?_); (focus (first | with_reducible rfl | with_reducible exact List.nil_append _ | with_reducible exact (List.map_append ..).symm | (rw [take_snoc (by assumption), List.map_append]; rfl) | (rw [List.map_append]; rfl) | (simp; done))); (focus (first | exact len_none | exact len_one rfl | exact len_two rfl rfl | exact len_enc (fun _ => rfl))); (focus ((conv => lhs; rhs; whnf); simp only [List.length_map, List.length_append, List.length_cons, List.length_nil, List.length_take]; omega)); (focus (simp only [List.length_map, List.length_append, List.length_cons, List.length_nil, List.length_take]; omega))) | (refine s_app0roR (r := tk.map encB) ?_ ?_ ?_ ?_ (h := ?_); (focus (first | with_reducible rfl | with_reducible exact List.nil_append _ | with_reducible exact (List.map_append ..).symm | (rw [take_snoc (by assumption), List.map_append]; rfl) | (rw [List.map_append]; rfl) | (simp; done))); (focus (first | exact len_none | exact len_one rfl | exact len_two rfl rfl | exact len_enc (fun _ => rfl))); (focus ((conv => lhs; rhs; whnf); simp only [List.length_map, List.length_append, List.length_cons, List.length_nil, List.length_take]; omega)); (focus (simp only [List.length_map, List.length_append, List.length_cons, List.length_nil, List.length_take]; omega))) | (refine p_appro (r := tk.map encB) ?_ ?_ ?_ ?_ (h := ?_); (focus (first | with_reducible rfl | with_reducible exact List.nil_append _ | with_reducible exact (List.map_append ..).symm | (rw [take_snoc (by assumption), List.map_append]; rfl) | (rw [List.map_append]; rfl) | (simp; done))); (focus (first | exact len_none | exact len_one rfl | exact len_two rfl rfl | exact len_enc (fun _ => rfl))); (focus ((conv => lhs; rhs; whnf); simp only [List.length_map, List.length_append, List.length_cons, List.length_nil, List.length_take]; omega)); (focus (simp only [List.length_map, List.length_append, List.length_cons, List.length_nil, List.length_take]; omega))) | (refine p_app0roR (r := tk.map encB) ?_ ?_ ?_ ?_ (h := ?_); (focus (first | with_reducible rfl | with_reducible exact List.nil_append _ | with_reducible exact (List.map_append ..).symm | (rw [take_snoc (by assumption), List.map_append]; rfl) | (rw [List.map_append]; rfl) | (simp; done))); (focus (first | exact len_none | exact len_one rfl | exact len_two rfl rfl | exact len_enc (fun _ => rfl))); (focus ((conv => lhs; rhs; whnf); simp only [List.length_map, List.length_append, List.length_cons, List.length_nil, List.length_take]; omega)); (focus (simp only [List.length_map, List.length_append, List.length_cons, List.length_nil, List.length_take]; omega))) | (refine s_call (hc) (h := ?_)) | (refine p_call (hc) (h := ?_)) | (refine go_ ?_; ((repeat' first | exact True.intro | refine Two.mk ?_ ?_); all_goals intros)) | fail "")
          all_goals first
            | (exact endwA_)
            | skip
        · rw [if_pos (by (try dsimp only); omega)]
          try dsimp only
          try rw [hq]
          (repeat' first | (refine s_callM [1] (g) (h := ?_)) | (refine s_callM0 [1] (g) (h := ?_)) | (refine p_callM [1] (g) (h := ?_)) | (refine s_callM [1] (gt) (h := ?_)) | (refine s_callM0 [1] (gt) (h := ?_)) | (refine p_callM [1] (gt) (h := ?_)) | (refine s_appro (r := tk.map encB) ?_ ?_ ?_ ?_ (h := ?_); (focus (first | with_reducible rfl | with_reducible exact List.nil_append _ | with_reducible exact (List.map_append ..).symm | (rw [take_snoc (by assumption), List.map_append]; rfl) | (rw [List.map_append]; rfl) | (simp; done))); (focus (first | exact len_none | exact len_one rfl | exact len_two rfl rfl | exact len_enc (fun _ => rfl))); (focus ((conv => lhs; rhs; whnf); simp only [List.length_map, List.length_append, List.length_cons, List.length_nil, List.length_take]; omega)); (focus (simp only [List.length_map, List.length_append, List.length_cons, List.length_nil, List.length_take]; omega))) | (refine s_app0roR (r := tk.map encB) ?_ ?_ ?_ ?_ (h := ?_); (focus (first | with_reducible rfl | with_reducible exact List.nil_append _ | with_reducible exact (List.map_append ..).symm | (rw [take_snoc (by assumption), List.map_append]; rfl) | (rw [List.map_append]; rfl) | (simp; done))); (focus (first | exact len_none | exact len_one rfl | exact len_two rfl rfl | exact len_enc (fun _ => rfl))); (focus ((conv => lhs; rhs; whnf); simp only [List.length_map, List.length_append, List.length_cons, List.length_nil, List.length_take]; omega)); (focus (simp only [List.length_map, List.length_append, List.length_cons, List.length_nil, List.length_take]; omega))) | (refine p_appro (r := tk.map encB) ?_ ?_ ?_ ?_ (h := ?_); (focus (first | with_reducible rfl | with_reducible exact List.nil_append _ | with_reducible exact (List.map_append ..).symm | (rw [take_snoc (by assumption), List.map_append]; rfl) | (rw [List.map_append]; rfl) | (simp; done))); (focus (first | exact len_none | exact len_one rfl | exact len_two rfl rfl | exact len_enc (fun _ => rfl))); (focus ((conv => lhs; rhs; whnf); simp only [List.length_map, List.length_append, List.length_cons, List.length_nil, List.length_take]; omega)); (focus (simp only [List.length_map, List.length_append, List.length_cons, List.length_nil, List.length_take]; omega))) | (refine p_app0roR (r := tk.map encB) ?_ ?_ ?_ ?_ (h := ?_); (focus (first | with_reducible rfl | with_reducible exact List.nil_append _ | with_reducible exact (List.map_append ..).symm | (rw [take_snoc (by assumption), List.map_append]; rfl) | (rw [List.map_append]; rfl) | (simp; done))); (focus (first | exact len_none | exact len_one rfl | exact len_two rfl rfl | exact len_enc (fun _ => rfl))); (focus ((conv => lhs; rhs; whnf); simp only [List.length_map, List.length_append, List.length_cons, List.length_nil, List.length_take]; omega)); (focus (simp only [List.length_map, List.length_append, List.length_cons, List.length_nil, List.length_take]; omega))) | (refine s_call (hc) (h := ?_)) | (refine p_call (hc) (h := ?_)) | (refine go_ ?_; ((repeat' first | exact True.intro | refine Two.mk ?_ ?_); all_goals intros)) | fail "")
          all_goals first
            | (exact endwA_)
            | skip
      · rw [if_pos (by (try dsimp only); omega)]
        (repeat' first | (refine s_callM [1] (g) (h := ?_)) | (refine s_callM0 [1] (g) (h := ?_)) | (refine p_callM [1] (g) (h := ?_)) | (refine s_callM [1] (gt) (h := ?_)) | (refine s_callM0 [1] (gt) (h := ?_)) | (refine p_callM [1] (gt) (h := ?_)) | (refine s_appro (r := tk.map encB) ?_ ?_ ?_ ?_ (h := ?_); (focus (first | with_reducible rfl | with_reducible exact List.nil_append _ | with_reducible exact (List.map_append ..).symm | (rw [take_snoc (by assumption), List.map_append]; rfl) | (rw [List.map_append]; rfl) | (simp; done))); (focus (first | exact len_none | exact len_one rfl | exact len_two rfl rfl | exact len_enc (fun _ => rfl))); (focus ((conv => lhs; rhs; whnf); simp only [List.length_map, List.length_append, List.length_cons, List.length_nil, List.length_take]; omega)); (focus (simp only [List.length_map, List.length_append, List.length_cons, List.length_nil, List.length_take]; omega))) | (refine s_app0roR (r := tk.map encB) ?_ ?_ ?_ ?_ (h := ?_); (focus (first | with_reducible rfl | with_reducible exact List.nil_append _ | with_reducible exact (List.map_append ..).symm | (rw [take_snoc (by assumption), List.map_append]; rfl) | (rw [List.map_append]; rfl) | (simp; done))); (focus (first | exact len_none | exact len_one rfl | exact len_two rfl rfl | exact len_enc (fun _ => rfl))); (focus ((conv => lhs; rhs; whnf); simp only [List.length_map, List.length_append, List.length_cons, List.length_nil, List.length_take]; omega)); (focus (simp only [List.length_map, List.length_append, List.length_cons, List.length_nil, List.length_take]; omega))) | (refine p_appro (r := tk.map encB) ?_ ?_ ?_ ?_ (h := ?_); (focus (first | with_reducible rfl | with_reducible exact List.nil_append _ | with_reducible exact (List.map_append ..).symm | (rw [take_snoc (by assumption), List.map_append]; rfl) | (rw [List.map_append]; rfl) | (simp; done))); (focus (first | exact len_none | exact len_one rfl | exact len_two rfl rfl | exact len_enc (fun _ => rfl))); (focus ((conv => lhs; rhs; whnf); simp only [List.length_map, List.length_append, List.length_cons, List.length_nil, List.length_take]; omega)); (focus (simp only [List.length_map, List.length_append, List.length_cons, List.length_nil, List.length_take]; omega))) | (refine p_app0roR (r := tk.map encB) ?_ ?_ ?_ ?_ (h := ?_); (focus (first | with_reducible rfl | with_reducible exact List.nil_append _ | with_reducible exact (List.map_append ..).symm | (rw [take_snoc (by assumption), List.map_append]; rfl) | (rw [List.map_append]; rfl) | (simp; done))); (focus (first | exact len_none | exact len_one rfl | exact len_two rfl rfl | exact len_enc (fun _ => rfl))); (focus ((conv => lhs; rhs; whnf); simp only [List.length_map, List.length_append, List.length_cons, List.length_nil, List.length_take]; omega)); (focus (simp only [List.length_map, List.length_append, List.length_cons, List.length_nil, List.length_take]; omega))) | (refine go_ ?_; ((repeat' first | exact True.intro | refine Two.mk ?_ ?_); all_goals intros)) | fail "")
        all_goals first
          | (exact endwA_)
          | skip
end Go.Proofs.Ythpophgcmgdpjaa
