/-
  client.Check, client.Begin, client.Hello and the reference's ClientFault, ClientBegun, ClientHello: what each answers.
-/
import Derived.Test.YtfdomanbdfekhaaGA
import Derived.Test.YtfdomanbdfekhaaGC
import Derived.Test.YtfdomanbdfekhaaGD
import Derived.Test.YtfdomanbdfekhaaGL
import Derived.Test.YtfdomanbdfekhaaGtPr
set_option linter.unusedVariables false
set_option linter.unusedSimpArgs false
set_option linter.unusedVariables false
namespace Go.Proofs.Ytfdomanbdfekhaa
set_option maxRecDepth 100000
attribute [local irreducible] Run RunL QStep GStep Fn Less PL FnM

theorem gFirst_fn (n : Int) : Fn Try.prog 69 [.lit (.int .i64 n)] (.lit (.int .u64 (keyV 1 n))) := by
  have h1 := key_fn 1 n
  refine fn_of_run (by kernel_rfl) Try.func69 rfl (by kernel_rfl) ?_
  (repeat' first | (refine s_call (h1) (h := ?_)) | (refine p_call (h1) (h := ?_)) | (refine go_ ?_; ((repeat' first | exact True.intro | refine Two.mk ?_ ?_); all_goals intros)) | fail "")
  all_goals first
    | (exact endwA_)
    | skip
theorem firstKey_fn (n : Int) : Fn Try.prog 73 [.lit (.int .i64 n)] (.lit (.int .u64 (keyV 1 n))) := by
  have h1 := keyOf_fn 1 n
  refine fn_of_run (by kernel_rfl) Try.func73 rfl (by kernel_rfl) ?_
  (repeat' first | (refine s_call (h1) (h := ?_)) | (refine p_call (h1) (h := ?_)) | (refine go_ ?_; ((repeat' first | exact True.intro | refine Two.mk ?_ ?_); all_goals intros)) | fail "")
  all_goals first
    | (exact endwA_)
    | skip
theorem clEight_fn (m : Nat) : Fn Try.prog 70 [.lit (.int .u64 m)] (.ro ((bigB m 8).map encB)) := by
  have hl8 := bigB_length m 8
  refine fn_of_run (by kernel_rfl) Try.func70 rfl (by kernel_rfl) ?_
  (repeat' first | (refine s_make (8) ?_ ?_ ?_ ?_ (h := ?_); (focus (first | rfl | omega)); (focus (first | rfl | omega)); (focus (first | exact Nat.le_of_ble_eq_true rfl | ((conv => lhs; lhs; whnf); simp only [Nat.one_mul]; omega))); (focus omega)) | (refine go_ ?_; ((repeat' first | exact True.intro | refine Two.mk ?_ ?_); all_goals intros)) | fail "")
  rw [← fillB0 (bigB m 8) 8]
  refine r_for (fun k : Nat => ⟨[(0, .lit (.int .u64 m)), (3, .own 0), (7, .lit (.int .i64 8)), (8, .lit (.int .i64 k))], [(0, some (.row 5 1 (fillB (bigB m 8) 8 k)))], 1, Try.f70.ntmps⟩)
    (fun k => k ≤ 8) (fun k => 8 - k) 0 (by omega) (by (exact lessA_)) ?_
  intro k hk
  have hf := fillB_length hl8 hk
  by_cases hkn : k < 8
  · have hs : (fillB (bigB m 8) 8 k).set k [.lit (.int .u8 (IntKind.u8.wrap ((m : Int).fdiv (2 ^ min (56 - 8 * (k : Int)).toNat IntKind.u64.bits))))] = fillB (bigB m 8) 8 (k + 1) := by
      refine fillB_set hl8 hkn ?_
      rw [bigB_get m 8 k hkn, encB_ofNat, show min (56 - 8 * (k : Int)).toNat IntKind.u64.bits = 8 * (7 - k) by (show min (56 - 8 * (k : Int)).toNat 64 = _; omega), fdiv_two_pow, Nat.pow_mul]
    (repeat' first | (refine s_set (r := fillB (bigB m 8) 8 (k + 1)) ?_ ?_ (h := ?_); (focus (first | omega | (simp only [List.length_map, List.length_append, List.length_take, List.length_drop, List.length_replicate]; omega))); (focus ((rw [setAt1 (fillB_elem hl8 hkn)]; exact hs)))) | (refine p_set (r := fillB (bigB m 8) 8 (k + 1)) ?_ ?_ (h := ?_); (focus (first | omega | (simp only [List.length_map, List.length_append, List.length_take, List.length_drop, List.length_replicate]; omega))); (focus ((rw [setAt1 (fillB_elem hl8 hkn)]; exact hs)))) | (refine go_ ?_; ((repeat' first | exact True.intro | refine Two.mk ?_ ?_); all_goals intros)) | fail "")
    all_goals (refine ⟨k + 1, ?_, ?_, ?_⟩; rotate_left 2; (exact lessA_); (focus (omega)); (focus (omega)))
  · have : k = 8 := by omega
    subst this
    rw [fillB_all hl8]
    (repeat' first | (refine go_ ?_; ((repeat' first | exact True.intro | refine Two.mk ?_ ?_); all_goals intros)) | fail "")
    all_goals first
      | exact ends_ (hr := rfl)
      | skip
/-- P20.2 -/
def clOk (c : DClient) : Prop := (((0 ≤ c.Peer ∧ c.Peer ≤ 3) ∧ 0 ≤ c.Id ∧ c.Id ≤ 255) ∧ (0 ≤ c.To ∧ c.To ≤ 255) ∧ c.Token.length ≤ 120) ∧ cnFlt c.Conn = 0 ∧ c.Conn.Client = true
noncomputable def clFlt (c : DClient) : Int := if yes (clOk c) = true then 0 else 9
theorem clFlt_t {c : DClient} (h : clOk c) : clFlt c = 0 := if_pos (yes_of h)
theorem clFlt_f {c : DClient} (h : ¬ clOk c) : clFlt c = 9 := if_neg (by rw [no_of h]; exact Bool.false_ne_true)
set_option maxHeartbeats 4000000 in
theorem clientCheck_fn (c : DClient) (hw : wfClient c) : Fn Try.prog 30 [.agg (encClient c)] (.lit (.int .i64 (clFlt c))) := by
  have h1 := connCheck_fn c.Conn hw.2.2.2.2.2.2
  have ht := hw.2.2.2.1
  clear hw
  by_cases h : clOk c
  · rw [clFlt_t h]
    unfold clOk at h
    obtain ⟨h0, h2, h3⟩ := h
    rw [h2] at h1
    obtain ⟨peer, id, word, token, to, key, conn⟩ := c
    obtain ⟨b0, space, pace, flow, credit, ids, grant, opened, lanes, b1, queue, last, resets, b2, code⟩ := conn
    dsimp only at *
    subst h3
    clear h2
    refine fn_of_run (by kernel_rfl) Try.func30 rfl (by kernel_rfl) ?_
    (repeat' first | (refine s_call (h1) (h := ?_)) | (refine p_call (h1) (h := ?_)) | (refine go_ ?_; ((repeat' first | exact True.intro | refine Two.mk ?_ ?_); all_goals intros)) | fail "")
    all_goals (try dsimp only at *)
    all_goals first
      | (exact endwA_)
      | (exfalso; omega)
      | skip
  · rw [clFlt_f h]
    unfold clOk at h
    generalize cnFlt c.Conn = f at *
    obtain ⟨peer, id, word, token, to, key, conn⟩ := c
    obtain ⟨b0, space, pace, flow, credit, ids, grant, opened, lanes, b1, queue, last, resets, b2, code⟩ := conn
    dsimp only at *
    cases b0
    · clear h
      refine fn_of_run (by kernel_rfl) Try.func30 rfl (by kernel_rfl) ?_
      (repeat' first | (refine s_call (h1) (h := ?_)) | (refine p_call (h1) (h := ?_)) | (refine go_ ?_; ((repeat' first | exact True.intro | refine Two.mk ?_ ?_); all_goals intros)) | fail "")
      all_goals (try dsimp only at *)
      all_goals first
        | (exact endwA_)
        | (exfalso; omega)
        | skip
    · have h : ¬ ((((0 ≤ peer ∧ peer ≤ 3) ∧ 0 ≤ id ∧ id ≤ 255) ∧ (0 ≤ to ∧ to ≤ 255) ∧ token.length ≤ 120) ∧ f = 0) := fun q => h ⟨q.1, q.2, rfl⟩
      refine fn_of_run (by kernel_rfl) Try.func30 rfl (by kernel_rfl) ?_
      (repeat' first | (refine s_call (h1) (h := ?_)) | (refine p_call (h1) (h := ?_)) | (refine go_ ?_; ((repeat' first | exact True.intro | refine Two.mk ?_ ?_); all_goals intros)) | fail "")
      all_goals (try dsimp only at *)
      all_goals first
        | (exact endwA_)
        | (exfalso; omega)
        | skip
set_option maxHeartbeats 4000000 in
theorem clientFault_fn (c : DClient) (hw : U.wfClient c) : Fn Try.prog 33 [.agg (encClient c)] (.lit (.int .i64 (clFlt c))) := by
  have h1 := connFault_fn c.Conn hw.2.2.2.2.2.2
  have ht := hw.2.2.2.1
  clear hw
  by_cases h : clOk c
  · rw [clFlt_t h]
    unfold clOk at h
    obtain ⟨h0, h2, h3⟩ := h
    rw [h2] at h1
    obtain ⟨peer, id, word, token, to, key, conn⟩ := c
    obtain ⟨b0, space, pace, flow, credit, ids, grant, opened, lanes, b1, queue, last, resets, b2, code⟩ := conn
    dsimp only at *
    subst h3
    clear h2
    refine fn_of_run (by kernel_rfl) Try.func33 rfl (by kernel_rfl) ?_
    (repeat' first | (refine s_call (h1) (h := ?_)) | (refine p_call (h1) (h := ?_)) | (refine s_dec (upTo_fn _ _) (ht := ?_) (hff := ?_) <;> intro _ <;> try (exfalso; omega)) | (refine p_dec (upTo_fn _ _) (ht := ?_) (hff := ?_) <;> intro _ <;> try (exfalso; omega)) | (refine go_ ?_; ((repeat' first | exact True.intro | refine Two.mk ?_ ?_); all_goals intros)) | fail "")
    all_goals (try dsimp only at *)
    all_goals first
      | (exact endwA_)
      | (exfalso; omega)
      | skip
  · rw [clFlt_f h]
    unfold clOk at h
    generalize cnFlt c.Conn = f at *
    obtain ⟨peer, id, word, token, to, key, conn⟩ := c
    obtain ⟨b0, space, pace, flow, credit, ids, grant, opened, lanes, b1, queue, last, resets, b2, code⟩ := conn
    dsimp only at *
    cases b0
    · clear h
      refine fn_of_run (by kernel_rfl) Try.func33 rfl (by kernel_rfl) ?_
      (repeat' first | (refine s_call (h1) (h := ?_)) | (refine p_call (h1) (h := ?_)) | (refine s_dec (upTo_fn _ _) (ht := ?_) (hff := ?_) <;> intro _ <;> try (exfalso; omega)) | (refine p_dec (upTo_fn _ _) (ht := ?_) (hff := ?_) <;> intro _ <;> try (exfalso; omega)) | (refine go_ ?_; ((repeat' first | exact True.intro | refine Two.mk ?_ ?_); all_goals intros)) | fail "")
      all_goals (try dsimp only at *)
      all_goals first
        | (exact endwA_)
        | (exfalso; omega)
        | skip
    · have h : ¬ ((((0 ≤ peer ∧ peer ≤ 3) ∧ 0 ≤ id ∧ id ≤ 255) ∧ (0 ≤ to ∧ to ≤ 255) ∧ token.length ≤ 120) ∧ f = 0) := fun q => h ⟨q.1, q.2, rfl⟩
      refine fn_of_run (by kernel_rfl) Try.func33 rfl (by kernel_rfl) ?_
      (repeat' first | (refine s_call (h1) (h := ?_)) | (refine p_call (h1) (h := ?_)) | (refine s_dec (upTo_fn _ _) (ht := ?_) (hff := ?_) <;> intro _ <;> try (exfalso; omega)) | (refine p_dec (upTo_fn _ _) (ht := ?_) (hff := ?_) <;> intro _ <;> try (exfalso; omega)) | (refine go_ ?_; ((repeat' first | exact True.intro | refine Two.mk ?_ ?_); all_goals intros)) | fail "")
      all_goals (try dsimp only at *)
      all_goals first
        | (exact endwA_)
        | (exfalso; omega)
        | skip
/-- P20.1 -/
def clBegR (peer id word now : Int) : DClient × Int := if ((0 ≤ peer ∧ peer ≤ 3) ∧ 0 ≤ id ∧ id ≤ 255) ∧ 0 ≤ now ∧ now ≤ 1099511627776 then (⟨peer, id, word, [], 0, 0, (cnBegR true now).1⟩, 0) else (default, 6)
def encClE (r : DClient × Int) : V := .tup [.agg (encClient r.1), .lit (.int .i64 r.2)]
set_option maxHeartbeats 4000000 in
theorem clientBegin_fn (peer id word now : Int) : Fn Try.prog 31 [.lit (.int .i64 peer), .lit (.int .i64 id), .lit (.int .u64 word), .lit (.int .i64 now)] (encClE (clBegR peer id word now)) := by
  have h1 := connBegin_fn true now
  unfold cnBegR encCnE at h1
  unfold clBegR encClE cnBegR
  by_cases h : 0 ≤ now ∧ now ≤ 1099511627776
  · rw [if_pos h] at h1 ⊢
    by_cases h2 : (0 ≤ peer ∧ peer ≤ 3) ∧ 0 ≤ id ∧ id ≤ 255
    · rw [if_pos ⟨h2, h⟩]
      refine fn_of_run (by kernel_rfl) Try.func31 rfl (by kernel_rfl) ?_
      (repeat' first | (refine s_call (h1) (h := ?_)) | (refine p_call (h1) (h := ?_)) | (refine go_ ?_; ((repeat' first | exact True.intro | refine Two.mk ?_ ?_); all_goals intros)) | fail "")
      all_goals first
        | (exact endwA_)
        | (exfalso; omega)
        | skip
    · rw [if_neg (fun q => h2 q.1)]
      refine fn_of_run (by kernel_rfl) Try.func31 rfl (by kernel_rfl) ?_
      (repeat' first | (refine s_call (h1) (h := ?_)) | (refine p_call (h1) (h := ?_)) | (refine go_ ?_; ((repeat' first | exact True.intro | refine Two.mk ?_ ?_); all_goals intros)) | fail "")
      all_goals first
        | (exact endwA_)
        | (exfalso; omega)
        | skip
  · rw [if_neg h] at h1 ⊢
    rw [if_neg (fun q => h q.2)]
    refine fn_of_run (by kernel_rfl) Try.func31 rfl (by kernel_rfl) ?_
    (repeat' first | (refine s_call (h1) (h := ?_)) | (refine p_call (h1) (h := ?_)) | (refine go_ ?_; ((repeat' first | exact True.intro | refine Two.mk ?_ ?_); all_goals intros)) | fail "")
    all_goals first
      | (exact endwA_)
      | (exfalso; omega)
      | skip
set_option maxHeartbeats 4000000 in
theorem clientBegun_fn (peer id word now : Int) : Fn Try.prog 34 [.lit (.int .i64 peer), .lit (.int .i64 id), .lit (.int .u64 word), .lit (.int .i64 now)] (encClE (clBegR peer id word now)) := by
  have h1 := connBegun_fn true now
  unfold cnBegR encCnE at h1
  unfold clBegR encClE cnBegR
  by_cases h : 0 ≤ now ∧ now ≤ 1099511627776
  · rw [if_pos h] at h1 ⊢
    by_cases h2 : (0 ≤ peer ∧ peer ≤ 3) ∧ 0 ≤ id ∧ id ≤ 255
    · rw [if_pos ⟨h2, h⟩]
      refine fn_of_run (by kernel_rfl) Try.func34 rfl (by kernel_rfl) ?_
      (repeat' first | (refine s_call (h1) (h := ?_)) | (refine p_call (h1) (h := ?_)) | (refine s_dec (upTo_fn _ _) (ht := ?_) (hff := ?_) <;> intro _ <;> try (exfalso; omega)) | (refine p_dec (upTo_fn _ _) (ht := ?_) (hff := ?_) <;> intro _ <;> try (exfalso; omega)) | (refine go_ ?_; ((repeat' first | exact True.intro | refine Two.mk ?_ ?_); all_goals intros)) | fail "")
      all_goals first
        | (exact endwA_)
        | (exfalso; omega)
        | skip
    · rw [if_neg (fun q => h2 q.1)]
      refine fn_of_run (by kernel_rfl) Try.func34 rfl (by kernel_rfl) ?_
      (repeat' first | (refine s_call (h1) (h := ?_)) | (refine p_call (h1) (h := ?_)) | (refine s_dec (upTo_fn _ _) (ht := ?_) (hff := ?_) <;> intro _ <;> try (exfalso; omega)) | (refine p_dec (upTo_fn _ _) (ht := ?_) (hff := ?_) <;> intro _ <;> try (exfalso; omega)) | (refine go_ ?_; ((repeat' first | exact True.intro | refine Two.mk ?_ ?_); all_goals intros)) | fail "")
      all_goals first
        | (exact endwA_)
        | (exfalso; omega)
        | skip
  · rw [if_neg h] at h1 ⊢
    rw [if_neg (fun q => h q.2)]
    refine fn_of_run (by kernel_rfl) Try.func34 rfl (by kernel_rfl) ?_
    (repeat' first | (refine s_call (h1) (h := ?_)) | (refine p_call (h1) (h := ?_)) | (refine s_dec (upTo_fn _ _) (ht := ?_) (hff := ?_) <;> intro _ <;> try (exfalso; omega)) | (refine p_dec (upTo_fn _ _) (ht := ?_) (hff := ?_) <;> intro _ <;> try (exfalso; omega)) | (refine go_ ?_; ((repeat' first | exact True.intro | refine Two.mk ?_ ?_); all_goals intros)) | fail "")
    all_goals first
      | (exact endwA_)
      | (exfalso; omega)
      | skip
/-- P20.3 -/
def helloF (w : Int) : DFrame := ⟨6, 0, 0, false, 0, [], bigB w.toNat 8⟩
def iniH (c : DClient) : DHead := ⟨0, 0, c.Id, c.Token, 0, 0⟩
noncomputable def clHelR (c : DClient) : List UInt8 × Int := if clFlt c = 0 then pktR (keyV 1 c.Id) (iniH c) 0 (-1) [helloF c.Word] else ([], clFlt c)
theorem helloF_wf (w : Int) : wfFrame (helloF w) := by
  unfold helloF wfFrame I64
  have := bigB_length w.toNat 8
  exact ⟨by dsimp only; omega, by dsimp only; omega, by dsimp only; omega, by dsimp only; omega, by simp, (fun y hy => by cases hy), by dsimp only; omega⟩
theorem iniH_wf {c : DClient} (hi : I64 c.Id) (ht : c.Token.length * 1 ≤ 140737488351232) : wfHead (iniH c) := by
  unfold iniH wfHead
  exact ⟨by unfold I64; dsimp only; omega, by unfold I64; dsimp only; omega, hi, ht, by unfold I64; dsimp only; omega, by unfold I64; dsimp only; omega⟩
/-- its cells as they are built -/
def helloRaw (m : Nat) : List V := [.lit (.int .i64 6), .lit (.int .i64 0), .lit (.int .i64 0), .lit (.bool false), .lit (.int .i64 0), .lit (.slice none 0 0), .ro ((bigB m 8).map encB)]
theorem helloRaw_wk (m : Nat) : ∀ i j, i < [helloRaw m].length → j < (eAt [helloRaw m] i).length → WkC (cAt (eAt [helloRaw m] i) j) (cAt (eAt ([helloF (m : Int)].map encFrame) i) j) := by
  intro i j hi hj
  obtain rfl : i = 0 := by simp at hi; omega
  have hj : j < 7 := hj
  match j, hj with
  | 0, _ | 1, _ | 2, _ | 3, _ | 4, _ | 6, _ => exact .inl rfl
  | 5, _ => exact .inr ⟨rfl, rfl⟩
  | n + 7, h => omega
set_option maxHeartbeats 4000000 in
theorem clientHello_fn (c : DClient) (hw : wfClient c) : Fn Try.prog 32 [.agg (encClient c)] (encPk (clHelR c)) := by
  have h1 := clientCheck_fn c hw
  have h2 := gFirst_fn c.Id
  obtain ⟨m, hm⟩ := Int.eq_ofNat_of_zero_le hw.2.2.1.1
  have h3 := clEight_fn m
  have h4 : Fn Try.prog 68 [.lit (.int .u64 (keyV 1 c.Id)), .agg (encHead (iniH c)), .lit (.int .i64 0), .lit (.int .i64 (-1)), .ro [helloRaw m]] (encPk (pktR (keyV 1 c.Id) (iniH c) 0 (-1) [helloF (m : Int)])) :=
    fn_last (vs := [.lit (.int .u64 (keyV 1 c.Id)), .agg (encHead (iniH c)), .lit (.int .i64 0), .lit (.int .i64 (-1))]) (packet_fn (keyV 1 c.Id) (iniH c) 0 (-1) [helloF (m : Int)] (iniH_wf hw.2.1 hw.2.2.2.1) (fun f hf => by rw [List.mem_singleton] at hf; exact hf ▸ helloF_wf _) (by simp)) rfl (fun i hi => by obtain rfl : i = 0 := (by simp at hi; omega); rfl) (helloRaw_wk m)
  clear hw
  unfold clHelR
  rw [hm]
  generalize pktR (keyV 1 c.Id) (iniH c) 0 (-1) [helloF (m : Int)] = R at *
  obtain ⟨rb, re⟩ := R
  generalize keyV 1 c.Id = kk at *
  generalize clFlt c = f at *
  obtain ⟨peer, id, word, token, to, key, conn⟩ := c
  unfold iniH helloRaw at h4
  unfold encPk at h4 ⊢
  dsimp only at *
  subst hm
  by_cases hf : f = 0
  · subst hf
    rw [if_pos rfl]
    refine fn_of_run (by kernel_rfl) Try.func32 rfl (by kernel_rfl) ?_
    (repeat' first | (refine s_call (h1) (h := ?_)) | (refine p_call (h1) (h := ?_)) | (refine s_call (h2) (h := ?_)) | (refine p_call (h2) (h := ?_)) | (refine s_call (h3) (h := ?_)) | (refine p_call (h3) (h := ?_)) | (refine s_call (h4) (h := ?_)) | (refine p_call (h4) (h := ?_)) | (refine go_ ?_; ((repeat' first | exact True.intro | refine Two.mk ?_ ?_); all_goals intros)) | fail "")
    all_goals first
      | (exact endwA_)
      | skip
  · rw [if_neg hf]
    refine fn_of_run (by kernel_rfl) Try.func32 rfl (by kernel_rfl) ?_
    (repeat' first | (refine s_call (h1) (h := ?_)) | (refine p_call (h1) (h := ?_)) | (refine go_ ?_; ((repeat' first | exact True.intro | refine Two.mk ?_ ?_); all_goals intros)) | fail "")
    all_goals first
      | (exact endwA_)
      | skip
set_option maxHeartbeats 4000000 in
theorem clientHelloRef_fn (c : DClient) (hu : U.wfClient c) : Fn Try.prog 35 [.agg (encClient c)] (encPk (clHelR c)) := by
  have hw := U.wf_leClient c hu
  have h1 := clientFault_fn c hu
  have h2 := firstKey_fn c.Id
  obtain ⟨m, hm⟩ := Int.eq_ofNat_of_zero_le hw.2.2.1.1
  have h3 := big8_fn m
  have h4 : Fn Try.prog 72 [.lit (.int .u64 (keyV 1 c.Id)), .agg (encHead (iniH c)), .lit (.int .i64 0), .lit (.int .i64 (-1)), .ro [helloRaw m]] (encPk (pktR (keyV 1 c.Id) (iniH c) 0 (-1) [helloF (m : Int)])) :=
    fn_last (vs := [.lit (.int .u64 (keyV 1 c.Id)), .agg (encHead (iniH c)), .lit (.int .i64 0), .lit (.int .i64 (-1))]) (packetOf_fn (keyV 1 c.Id) (iniH c) 0 (-1) [helloF (m : Int)] (iniH_wf hw.2.1 hw.2.2.2.1) (by unfold I64; decide) (by unfold I64; decide) (fun f hf => by rw [List.mem_singleton] at hf; exact hf ▸ helloF_wf _) (by simp)) rfl (fun i hi => by obtain rfl : i = 0 := (by simp at hi; omega); rfl) (helloRaw_wk m)
  clear hw hu
  have hl8 := bigB_length m 8
  unfold clHelR
  rw [hm]
  generalize pktR (keyV 1 c.Id) (iniH c) 0 (-1) [helloF (m : Int)] = R at *
  obtain ⟨rb, re⟩ := R
  generalize keyV 1 c.Id = kk at *
  generalize clFlt c = f at *
  obtain ⟨peer, id, word, token, to, key, conn⟩ := c
  unfold iniH helloRaw at h4
  unfold encPk at h4 ⊢
  dsimp only at *
  subst hm
  by_cases hf : f = 0
  · subst hf
    rw [if_pos rfl]
    refine fn_of_run (by kernel_rfl) Try.func35 rfl (by kernel_rfl) ?_
    (repeat' first | (refine s_call (h1) (h := ?_)) | (refine p_call (h1) (h := ?_)) | (refine s_call (h2) (h := ?_)) | (refine p_call (h2) (h := ?_)) | (refine s_call (h3) (h := ?_)) | (refine p_call (h3) (h := ?_)) | (refine s_call (h4) (h := ?_)) | (refine p_call (h4) (h := ?_)) | (refine go_ ?_; ((repeat' first | exact True.intro | refine Two.mk ?_ ?_); all_goals intros)) | fail "")
    all_goals first
      | (exact endwA_)
      | skip
  · rw [if_neg hf]
    refine fn_of_run (by kernel_rfl) Try.func35 rfl (by kernel_rfl) ?_
    (repeat' first | (refine s_call (h1) (h := ?_)) | (refine p_call (h1) (h := ?_)) | (refine go_ ?_; ((repeat' first | exact True.intro | refine Two.mk ?_ ?_); all_goals intros)) | fail "")
    all_goals first
      | (exact endwA_)
      | skip
end Go.Proofs.Ytfdomanbdfekhaa
