/-
  prefix.Encode and prefix.Text, and the reference's PrefixBytes and TextBytes: what each answers. No condition.
-/
import Derived.Test.YtfdomanbdfekhaaGA
import Derived.Test.YtfdomanbdfekhaaAbsJ
import Derived.Test.YtfdomanbdfekhaaPreT
import Derived.Test.YtfdomanbdfekhaaGC
set_option linter.unusedVariables false
set_option linter.unusedSimpArgs false
set_option linter.unusedVariables false
namespace Go.Proofs.Ytfdomanbdfekhaa
set_option maxRecDepth 100000
attribute [local irreducible] Run RunL QStep GStep Fn Less PL FnM

/-- P13.1 -/
def preR (f : Nat) (w n : Int) : List UInt8 × Int :=
  if ¬ ((1 ≤ w ∧ w ≤ 8) ∧ 0 ≤ n ∧ n ≤ 4611686018427387903) then ([], 6) else if f % 2 ^ w.toNat ≠ 0 then ([], 3) else (preE f (2 ^ w.toNat - 1) n.toNat, 0)
/-- P13.3 -/
def txtR (f : Nat) (w : Int) (s : List UInt8) : List UInt8 × Int :=
  if 120 < s.length then ([], 1) else if (preR f w s.length).2 ≠ 0 then ([], (preR f w s.length).2) else ((preR f w s.length).1 ++ s, 0)
def encPr (r : List UInt8 × Int) : V := .tup [.ro (r.1.map encB), .lit (.int .i64 r.2)]
theorem pre_sum {f w : Nat} (hf : f < 256) (hw : 1 ≤ w ∧ w ≤ 8) (h : f % 2 ^ w = 0) : f + (2 ^ w - 1) < 256 := by
  rcases (show w = 1 ∨ w = 2 ∨ w = 3 ∨ w = 4 ∨ w = 5 ∨ w = 6 ∨ w = 7 ∨ w = 8 by omega) with rfl | rfl | rfl | rfl | rfl | rfl | rfl | rfl <;> simp only [Nat.reducePow] at * <;> omega
theorem preR_cases (f : Nat) (w n : Int) (hf : f < 256) : (¬ ((1 ≤ w ∧ w ≤ 8) ∧ 0 ≤ n ∧ n ≤ 4611686018427387903) ∧ preR f w n = ([], 6)) ∨
    (∃ a b : Nat, w = (a : Int) ∧ n = (b : Int) ∧ (1 ≤ a ∧ a ≤ 8) ∧ b ≤ 4611686018427387903 ∧ ((f % 2 ^ a ≠ 0 ∧ preR f w n = ([], 3)) ∨ (f % 2 ^ a = 0 ∧ f + (2 ^ a - 1) < 256 ∧ preR f w n = (preE f (2 ^ a - 1) b, 0)))) := by
  unfold preR
  by_cases h : (1 ≤ w ∧ w ≤ 8) ∧ 0 ≤ n ∧ n ≤ 4611686018427387903
  · right
    obtain ⟨a, rfl⟩ := Int.eq_ofNat_of_zero_le (show 0 ≤ w by omega)
    obtain ⟨b, rfl⟩ := Int.eq_ofNat_of_zero_le (show 0 ≤ n by omega)
    refine ⟨a, b, rfl, rfl, by omega, by omega, ?_⟩
    rw [if_neg (fun q => q h), Int.toNat_natCast, Int.toNat_natCast]
    by_cases h2 : f % 2 ^ a = 0
    · exact .inr ⟨h2, pre_sum hf (by omega) h2, by rw [if_neg (fun q => q h2)]⟩
    · exact .inl ⟨h2, by rw [if_pos h2]⟩
  · exact .inl ⟨h, by rw [if_pos h]⟩
set_option maxHeartbeats 4000000 in
theorem prefixEncode_fn (f : Nat) (w n : Int) (hf : f < 256) : Fn Try.prog 11 [.lit (.int .u8 f), .lit (.int .i64 w), .lit (.int .i64 n)] (encPr (preR f w n)) := by
  unfold encPr
  rcases preR_cases f w n hf with ⟨h, e⟩ | ⟨a, b, rfl, rfl, ha, hb, ⟨h, e⟩ | ⟨h, hs, e⟩⟩
  · rw [e]
    refine fn_of_run (by kernel_rfl) Try.func11 rfl (by kernel_rfl) ?_
    (repeat' first | (refine go_ ?_; ((repeat' first | exact True.intro | refine Two.mk ?_ ?_); all_goals intros)) | fail "")
    all_goals first
      | (exact endwA_)
      | (exfalso; omega)
      | skip
  · rw [e]
    obtain ⟨t1, t2, t3⟩ := topN a (by omega)
    have ha2 := and64N f a (by omega) (by omega)
    rw [show ((2 ^ a - 1 : Nat) : Int) = ((2 ^ a : Nat) : Int) - 1 by omega, ← t1] at ha2
    generalize f % 2 ^ a = x at *
    generalize 2 ^ a = T at *
    refine fn_of_run (by kernel_rfl) Try.func11 rfl (by kernel_rfl) ?_
    (repeat' first | (refine go_ ?_; ((repeat' first | exact True.intro | refine Two.mk ?_ ?_); all_goals intros)) | fail "")
    all_goals first
      | (exact endwA_)
      | (exfalso; omega)
      | skip
  · rw [e]
    exact prefixEncode_ok f a b ha hb h hs
set_option maxHeartbeats 4000000 in
theorem prefixText_fn (f : Nat) (w : Int) (s : List UInt8) (hf : f < 256) : Fn Try.prog 12 [.lit (.int .u8 f), .lit (.int .i64 w), .lit (.string (strB s))] (encPr (txtR f w s)) := by
  unfold txtR
  by_cases h120 : 120 < s.length
  · rw [if_pos h120]
    unfold encPr
    refine fn_of_run (by kernel_rfl) Try.func12 rfl (by kernel_rfl) ?_
    (repeat' first | (refine go_ ?_; ((repeat' first | exact True.intro | refine Two.mk ?_ ?_); all_goals intros)) | fail "")
    all_goals first
      | (exact endwA_)
      | (exfalso; omega)
      | skip
  · rw [if_neg h120]
    have h1 := prefixEncode_fn f w s.length hf
    rcases preR_cases f w s.length hf with ⟨h, e⟩ | ⟨a, b, rfl, hb', ha, hb, ⟨h, e⟩ | ⟨h, hs, e⟩⟩
    · rw [e] at h1 ⊢
      rw [if_pos (by decide)]
      unfold encPr at *
      refine fn_of_run (by kernel_rfl) Try.func12 rfl (by kernel_rfl) ?_
      (repeat' first | (refine s_call (h1) (h := ?_)) | (refine p_call (h1) (h := ?_)) | (refine go_ ?_; ((repeat' first | exact True.intro | refine Two.mk ?_ ?_); all_goals intros)) | fail "")
      all_goals first
        | (exact endwA_)
        | (exfalso; omega)
        | skip
    · rw [e] at h1 ⊢
      rw [if_pos (by decide)]
      unfold encPr at *
      refine fn_of_run (by kernel_rfl) Try.func12 rfl (by kernel_rfl) ?_
      (repeat' first | (refine s_call (h1) (h := ?_)) | (refine p_call (h1) (h := ?_)) | (refine go_ ?_; ((repeat' first | exact True.intro | refine Two.mk ?_ ?_); all_goals intros)) | fail "")
      all_goals first
        | (exact endwA_)
        | (exfalso; omega)
        | skip
    · rw [e, if_neg (by simp)]
      obtain rfl : s.length = b := by omega
      exact prefixText_ok f a s ha (by omega) h hs
theorem tops (w : Nat) (h1 : 1 ≤ w) (h8 : w ≤ 8) {l : List (List V)} (hl : l = [[.lit (.int .i64 1)], [.lit (.int .i64 3)], [.lit (.int .i64 7)], [.lit (.int .i64 15)], [.lit (.int .i64 31)], [.lit (.int .i64 63)], [.lit (.int .i64 127)], [.lit (.int .i64 255)]]) : eAt l (w - 1) = [.lit (.int .i64 (((2 ^ w : Nat) : Int) - 1))] := by
  subst hl
  rcases (show w = 1 ∨ w = 2 ∨ w = 3 ∨ w = 4 ∨ w = 5 ∨ w = 6 ∨ w = 7 ∨ w = 8 by omega) with rfl | rfl | rfl | rfl | rfl | rfl | rfl | rfl <;> rfl
set_option maxHeartbeats 4000000 in
theorem prefixBytes_fn (f : Nat) (w n : Int) (hf : f < 256) (hw : I64 w) : Fn Try.prog 13 [.lit (.int .u8 f), .lit (.int .i64 w), .lit (.int .i64 n)] (encPr (preR f w n)) := by
  unfold encPr
  unfold I64 at hw
  rcases preR_cases f w n hf with ⟨h, e⟩ | ⟨a, b, rfl, rfl, ha, hb, ⟨h, e⟩ | ⟨h, hs, e⟩⟩
  · rw [e]
    refine fn_of_run (by kernel_rfl) Try.func13 rfl (by kernel_rfl) ?_
    (repeat' first | (refine s_dec (upTo_fn _ _) (ht := ?_) (hff := ?_) <;> intro _ <;> try (exfalso; omega)) | (refine p_dec (upTo_fn _ _) (ht := ?_) (hff := ?_) <;> intro _ <;> try (exfalso; omega)) | (refine go_ ?_; ((repeat' first | exact True.intro | refine Two.mk ?_ ?_); all_goals intros)) | fail "")
    all_goals (try simp only [IntKind.wrap_i64] at *)
    all_goals first
      | (exact endwA_)
      | (exfalso; omega)
      | skip
  · rw [e]
    obtain ⟨t1, t2, t3⟩ := topN a (by omega)
    have hT := tops a ha.1 ha.2 rfl
    have hm : (f : Int) % ((2 ^ a : Nat) : Int) = ((f % 2 ^ a : Nat) : Int) := rfl
    generalize f % 2 ^ a = x at *
    generalize 2 ^ a = T at *
    rw [show (T : Int) = (T : Int) - 1 + 1 by omega] at hm
    refine fn_of_run (by kernel_rfl) Try.func13 rfl (by kernel_rfl) ?_
    (repeat' first | (refine s_dec (upTo_fn _ _) (ht := ?_) (hff := ?_) <;> intro _ <;> try (exfalso; omega)) | (refine p_dec (upTo_fn _ _) (ht := ?_) (hff := ?_) <;> intro _ <;> try (exfalso; omega)) | (refine s_i (hq := q_index_ro (n := a - 1) (cs := [.lit (.int .i64 ((T : Int) - 1))]) rfl rfl rfl ?_ ?_ rfl rfl rfl ?_) (h := ?_); (focus omega); (focus (simp only [List.length_cons, List.length_nil]; omega)); (focus exact hT)) | (refine goI_ ?_; ((repeat' first | exact True.intro | refine Two.mk ?_ ?_); all_goals intros)) | refine s_i (h := ?_) | refine s_i (hq := q_index_ro rfl rfl rfl (by first | exact lit0 | exact lit1 | exact lit2 | exact lit3 | rfl) (by simp only [List.length_cons, List.length_nil]; omega) rfl rfl rfl rfl) (h := ?_) | refine p_i (h := ?_) | refine p_ih (h := ?_) | refine s_lit (h := ?_) | refine p_lit (h := ?_) | refine p_lit0 (h := ?_) | refine s_lit0 (h := ?_) | refine s_ixa (h := ?_) | refine s_insert (h := ?_) | (refine s_sadd rfl ?_ (h := ?_); (focus (first | omega | (simp only [List.length_append, List.length_map, List.length_cons, List.length_nil, List.length_take, List.length_drop]; omega)))) | (refine p_sadd rfl ?_ (h := ?_); (focus (first | omega | (simp only [List.length_append, List.length_map, List.length_cons, List.length_nil, List.length_take, List.length_drop]; omega)))) | fail "")
    all_goals (try simp only [IntKind.wrap_i64] at *)
    all_goals first
      | (exact endwA_)
      | (exfalso; omega)
      | skip
  · rw [e]
    obtain ⟨t1, t2, t3⟩ := topN a (by omega)
    have hT := tops a ha.1 ha.2 rfl
    have hm : (f : Int) % ((2 ^ a : Nat) : Int) = ((f % 2 ^ a : Nat) : Int) := rfl
    have h3 := prefixT_fn f (2 ^ a - 1) b hs hb
    rw [show ((2 ^ a - 1 : Nat) : Int) = ((2 ^ a : Nat) : Int) - 1 by omega] at h3
    have hl := preE_len f (2 ^ a - 1) b hb
    generalize preE f (2 ^ a - 1) b = L at *
    generalize f % 2 ^ a = x at *
    generalize 2 ^ a = T at *
    rw [show (T : Int) = (T : Int) - 1 + 1 by omega] at hm
    refine fn_of_run (by kernel_rfl) Try.func13 rfl (by kernel_rfl) ?_
    (repeat' first | (refine s_dec (upTo_fn _ _) (ht := ?_) (hff := ?_) <;> intro _ <;> try (exfalso; omega)) | (refine p_dec (upTo_fn _ _) (ht := ?_) (hff := ?_) <;> intro _ <;> try (exfalso; omega)) | (refine s_call (h3) (h := ?_)) | (refine p_call (h3) (h := ?_)) | (refine s_i (hq := q_index_ro (n := a - 1) (cs := [.lit (.int .i64 ((T : Int) - 1))]) rfl rfl rfl ?_ ?_ rfl rfl rfl ?_) (h := ?_); (focus omega); (focus (simp only [List.length_cons, List.length_nil]; omega)); (focus exact hT)) | (refine goI_ ?_; ((repeat' first | exact True.intro | refine Two.mk ?_ ?_); all_goals intros)) | refine s_i (h := ?_) | refine s_i (hq := q_index_ro rfl rfl rfl (by first | exact lit0 | exact lit1 | exact lit2 | exact lit3 | rfl) (by simp only [List.length_cons, List.length_nil]; omega) rfl rfl rfl rfl) (h := ?_) | refine p_i (h := ?_) | refine p_ih (h := ?_) | refine s_lit (h := ?_) | refine p_lit (h := ?_) | refine p_lit0 (h := ?_) | refine s_lit0 (h := ?_) | refine s_ixa (h := ?_) | refine s_insert (h := ?_) | (refine s_sadd rfl ?_ (h := ?_); (focus (first | omega | (simp only [List.length_append, List.length_map, List.length_cons, List.length_nil, List.length_take, List.length_drop]; omega)))) | (refine p_sadd rfl ?_ (h := ?_); (focus (first | omega | (simp only [List.length_append, List.length_map, List.length_cons, List.length_nil, List.length_take, List.length_drop]; omega)))) | fail "")
    all_goals (try simp only [IntKind.wrap_i64] at *)
    all_goals first
      | (exact endwA_)
      | (exfalso; omega)
      | skip
set_option maxHeartbeats 4000000 in
/-- where nothing is wrong: fresh bytes, the caller's own -/
theorem prefixBytes_own (f a b : Nat) (hf : f < 256) (ha : 1 ≤ a ∧ a ≤ 8) (hb : b ≤ 4611686018427387903) (h : f % 2 ^ a = 0) (hs : f + (2 ^ a - 1) < 256) :
    FnM Try.prog 13 [.lit (.int .u8 f), .lit (.int .i64 a), .lit (.int .i64 b)] [] 0 (.tup [.own 0, .lit (.int .i64 0)]) [(0, some (.brow 5 (preE f (2 ^ a - 1) b)))] 1 := by
  obtain ⟨t1, t2, t3⟩ := topN a (by omega)
  have hT := tops a ha.1 ha.2 rfl
  have hm : (f : Int) % ((2 ^ a : Nat) : Int) = ((f % 2 ^ a : Nat) : Int) := rfl
  have h3 := prefixT_fn f (2 ^ a - 1) b hs hb
  rw [show ((2 ^ a - 1 : Nat) : Int) = ((2 ^ a : Nat) : Int) - 1 by omega] at h3
  have hl := preE_len f (2 ^ a - 1) b hb
  generalize preE f (2 ^ a - 1) b = L at *
  generalize hX : strB L = X at h3
  generalize f % 2 ^ a = x at *
  generalize 2 ^ a = T at *
  rw [show (T : Int) = (T : Int) - 1 + 1 by omega] at hm
  refine fnm_of_run (by kernel_rfl) Try.func13 rfl (by kernel_rfl) (by rfl) ?_
  (repeat' first | (refine s_dec (upTo_fn _ _) (ht := ?_) (hff := ?_) <;> intro _ <;> try (exfalso; omega)) | (refine p_dec (upTo_fn _ _) (ht := ?_) (hff := ?_) <;> intro _ <;> try (exfalso; omega)) | (refine s_call (h3) (h := ?_)) | (refine p_call (h3) (h := ?_)) | (refine s_strOwn (l := L) (by omega) (ha := hX.symm) (h := ?_)) | (refine s_i (hq := q_index_ro (n := a - 1) (cs := [.lit (.int .i64 ((T : Int) - 1))]) rfl rfl rfl ?_ ?_ rfl rfl rfl ?_) (h := ?_); (focus omega); (focus (simp only [List.length_cons, List.length_nil]; omega)); (focus exact hT)) | (refine goI_ ?_; ((repeat' first | exact True.intro | refine Two.mk ?_ ?_); all_goals intros)) | refine s_i (h := ?_) | refine s_i (hq := q_index_ro rfl rfl rfl (by first | exact lit0 | exact lit1 | exact lit2 | exact lit3 | rfl) (by simp only [List.length_cons, List.length_nil]; omega) rfl rfl rfl rfl) (h := ?_) | refine p_i (h := ?_) | refine p_ih (h := ?_) | refine s_lit (h := ?_) | refine p_lit (h := ?_) | refine p_lit0 (h := ?_) | refine s_lit0 (h := ?_) | refine s_ixa (h := ?_) | refine s_insert (h := ?_) | (refine s_sadd rfl ?_ (h := ?_); (focus (first | omega | (simp only [List.length_append, List.length_map, List.length_cons, List.length_nil, List.length_take, List.length_drop]; omega)))) | (refine p_sadd rfl ?_ (h := ?_); (focus (first | omega | (simp only [List.length_append, List.length_map, List.length_cons, List.length_nil, List.length_take, List.length_drop]; omega)))) | fail "")
  all_goals (try simp only [IntKind.wrap_i64] at *)
  all_goals (try (exfalso; omega))
  refine endm_ (hr := ?_) (hh := ?_)
  · try dsimp only
    exact Wk.refl _
  · refine And.intro ?_ ?_
    · refine ex_blk rfl ?_ rfl
      rfl
    · exact True.intro
set_option maxHeartbeats 4000000 in
theorem textBytes_fn (f : Nat) (w : Int) (s : List UInt8) (hf : f < 256) (hw : I64 w) : Fn Try.prog 14 [.lit (.int .u8 f), .lit (.int .i64 w), .lit (.string (strB s))] (encPr (txtR f w s)) := by
  unfold txtR
  by_cases h120 : 120 < s.length
  · rw [if_pos h120]
    unfold encPr
    refine fn_of_run (by kernel_rfl) Try.func14 rfl (by kernel_rfl) ?_
    (repeat' first | (refine go_ ?_; ((repeat' first | exact True.intro | refine Two.mk ?_ ?_); all_goals intros)) | fail "")
    all_goals first
      | (exact endwA_)
      | (exfalso; omega)
      | skip
  · rw [if_neg h120]
    have h1 := prefixBytes_fn f w s.length hf hw
    rcases preR_cases f w s.length hf with ⟨h, e⟩ | ⟨a, b, rfl, hb', ha, hb, ⟨h, e⟩ | ⟨h, hs, e⟩⟩
    · rw [e] at h1 ⊢
      rw [if_pos (by decide)]
      unfold encPr at *
      refine fn_of_run (by kernel_rfl) Try.func14 rfl (by kernel_rfl) ?_
      (repeat' first | (refine s_call (h1) (h := ?_)) | (refine p_call (h1) (h := ?_)) | (refine go_ ?_; ((repeat' first | exact True.intro | refine Two.mk ?_ ?_); all_goals intros)) | fail "")
      all_goals first
        | (exact endwA_)
        | (exfalso; omega)
        | skip
    · rw [e] at h1 ⊢
      rw [if_pos (by decide)]
      unfold encPr at *
      refine fn_of_run (by kernel_rfl) Try.func14 rfl (by kernel_rfl) ?_
      (repeat' first | (refine s_call (h1) (h := ?_)) | (refine p_call (h1) (h := ?_)) | (refine go_ ?_; ((repeat' first | exact True.intro | refine Two.mk ?_ ?_); all_goals intros)) | fail "")
      all_goals first
        | (exact endwA_)
        | (exfalso; omega)
        | skip
    · rw [e, if_neg (by simp)]
      clear h1
      obtain rfl : s.length = b := by omega
      have h1 := prefixBytes_own f a s.length hf ha hb h hs
      have hl := preE_len f (2 ^ a - 1) s.length hb
      generalize preE f (2 ^ a - 1) s.length = L at *
      unfold encPr
      dsimp only
      refine fn_of_run (by kernel_rfl) Try.func14 rfl (by kernel_rfl) ?_
      (repeat' first | (refine s_callM [] (h1) (h := ?_)) | (refine s_callM0 [] (h1) (h := ?_)) | (refine p_callN (h1) (h := ?_)) | (refine s_appB (bs := s) (r := L ++ s) rfl (by omega) (h := ?_); refine l_less (less_bfro (id := 1) rfl) ?_) | (refine go_ ?_; ((repeat' first | exact True.intro | refine Two.mk ?_ ?_); all_goals intros)) | fail "")
      all_goals first
        | (exact endwA_)
        | (exfalso; omega)
        | skip
end Go.Proofs.Ytfdomanbdfekhaa
