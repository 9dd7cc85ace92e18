/-
  SEVERAL TEXTS IN ONE: each with its own comment.
-/
import Derived.Test.YtfdomanbdfekhaaGreatGA
import Derived.Test.YtfdomanbdfekhaaGreatGD
import Derived.Test.YtfdomanbdfekhaaGreatGI
import Derived.Test.YtfdomanbdfekhaaGreatGH
import Derived.Test.YtfdomanbdfekhaaGreatGF
import Derived.Test.YtfdomanbdfekhaaGreatGK
import Derived.Test.YtfdomanbdfekhaaGreatGG
import Derived.Test.YtfdomanbdfekhaaGreatFrF
/-
  conn.Check: what it answers. No condition.
-/
set_option linter.unusedVariables false
set_option linter.unusedSimpArgs false
set_option linter.unusedVariables false
namespace Go.Proofs.YtfdomanbdfekhaaGreat
set_option maxRecDepth 100000
attribute [local irreducible] Run RunL QStep GStep Fn Less PL FnM

/-- P18.1: the first part -/
def cnA (c : DConn) : Prop := spFlt c.Space = 0 ∧ paceFlt c.Pace = 0 ∧ flwFlt c.Flow = 0 ∧ flwFlt c.Credit = 0
def cnNum (c : DConn) : Prop := 0 ≤ c.Ids ∧ c.Ids ≤ 4611686018427387903 ∧ 0 ≤ c.Grant ∧ c.Grant ≤ 4611686018427387903 ∧ 0 ≤ c.Opened ∧ (c.Opened ≤ c.Ids ∨ c.Opened ≤ c.Grant) ∧ c.Lanes.length ≤ 4 ∧ c.Queue.length ≤ 12 ∧ 0 ≤ c.Last ∧ c.Last ≤ 1099511627776 ∧ 0 ≤ c.Resets ∧ c.Resets ≤ 4
/-- the number ahead of a lane's -/
def lnPrev (l : List DLane) (i : Nat) : Int := if i = 0 then -1 else (l.getD (i - 1) default).Id
theorem lnPrev_0 (l : List DLane) : lnPrev l 0 = -1 := rfl
theorem lnPrev_s (l : List DLane) (i : Nat) : lnPrev l (i + 1) = (l.getD i default).Id := by
  unfold lnPrev
  rw [if_neg (by omega), Nat.add_sub_cancel]
def lnOk (c : DConn) (i : Nat) : Prop := lnPrev c.Lanes i < (c.Lanes.getD i default).Id ∧ (c.Lanes.getD i default).Id < c.Opened ∧ gatherFlt (c.Lanes.getD i default).In = 0 ∧ sndFlt (c.Lanes.getD i default).Out = 0 ∧ (c.Lanes.getD i default).Read.length ≤ 800
def frsOk (l : List DFrame) (n : Nat) : Prop := AllTo (fun i => frFlt (l.getD i default) = 0) n
/-- P18.1 -/
def cnOk (c : DConn) : Prop := (((cnA c ∧ cnNum c) ∧ AllTo (lnOk c) c.Lanes.length) ∧ frsOk c.Queue c.Queue.length) ∧ AllTo (fun i => frsOk (c.Space.Sent.getD i default).Frames (c.Space.Sent.getD i default).Frames.length) c.Space.Sent.length
noncomputable def cnFlt (c : DConn) : Int := if yes (cnOk c) = true then 0 else 9
theorem cnFlt_t {c : DConn} (h : cnOk c) : cnFlt c = 0 := if_pos (yes_of h)
theorem cnFlt_f {c : DConn} (h : ¬ cnOk c) : cnFlt c = 9 := if_neg (by rw [no_of h]; exact Bool.false_ne_true)
theorem cnFlt_cases (c : DConn) : (cnFlt c = 0 ∧ cnOk c) ∨ (cnFlt c = 9 ∧ ¬ cnOk c) := by
  by_cases h : cnOk c
  · exact .inl ⟨cnFlt_t h, h⟩
  · exact .inr ⟨cnFlt_f h, h⟩

set_option maxHeartbeats 4000000 in
theorem connCheck_fn (c : DConn) (hw : wfConn c) : Fn Tryz.prog 7 [.agg (encConn c)] (.lit (.int .i64 (cnFlt c))) := by
  obtain ⟨w0, w1, w2, w3, w4, w5, w6, w7, w8, w9, w10, w11, w12, w13⟩ := hw
  have l2 : c.Space.Sent.length ≤ 1000000000000000 := by have := w0.2.1; omega
  have l3 : ∀ y, y ∈ c.Space.Sent → wfParcel y := w0.2.2.1
  have h1 := spaceCheck_fn c.Space w0
  have h2 := paceCheck_fn c.Pace
  have h3 := flwCheck_fn c.Flow
  have h4 := flwCheck_fn c.Credit
  clear w0 w1 w2 w3
  unfold I64 at w4 w5 w6 w11 w12 w13
  refine fn_of_run (by kernel_rfl) Tryz.func7 rfl (by kernel_rfl) ?_
  refine r_seq ?_
  refine r_region ?_
  (repeat' first | (refine goS_ ?_; ((repeat' first | exact True.intro | refine Two.mk ?_ ?_); all_goals intros)) | fail "")
  refine thenQ_n ?_
  refine r_cut (fun ok : Bool => ⟨[(1, .ptr 0 0 0 0), (2, .lit (.int .i64 0)), (3, .lit (.bool ok))], [(0, some (.box 34 (encConn c)))], 1, Tryz.f7.ntmps⟩) (fun ok => ok = true ↔ cnA c) ?_ ?_
  · unfold cnA
    (repeat' first | (refine s_call (h1) (h := ?_)) | (refine p_call (h1) (h := ?_)) | (refine s_call (h2) (h := ?_)) | (refine p_call (h2) (h := ?_)) | (refine s_call (h3) (h := ?_)) | (refine p_call (h3) (h := ?_)) | (refine s_call (h4) (h := ?_)) | (refine p_call (h4) (h := ?_)) | (refine go_ ?_; ((repeat' first | exact True.intro | refine Two.mk ?_ ?_); all_goals intros)) | fail "")
    all_goals first
      | (refine ⟨true, ?_, ?_⟩; rotate_left 1; (exact lessA_); (focus (exact ⟨fun _ => (by omega), fun _ => rfl⟩)))
      | (refine ⟨false, ?_, ?_⟩; rotate_left 1; (exact lessA_); (focus (exact ⟨(fun h => by cases h), fun h => (by omega)⟩)))
      | skip
  rintro ok hok
  clear h1 h2 h3 h4
  refine r_cut (fun ok : Bool => ⟨[(1, .ptr 0 0 0 0), (2, .lit (.int .i64 0)), (3, .lit (.bool ok))], [(0, some (.box 34 (encConn c)))], 1, Tryz.f7.ntmps⟩) (fun ok => ok = true ↔ cnA c ∧ cnNum c) ?_ ?_
  · unfold cnNum
    cases ok
    · have hn : ¬ cnA c := fun h => by have := hok.2 h; cases this
      clear hok
      (repeat' first | (refine go_ ?_; ((repeat' first | exact True.intro | refine Two.mk ?_ ?_); all_goals intros)) | fail "")
      all_goals first
        | (refine ⟨false, ?_, ?_⟩; rotate_left 1; (exact lessA_); (focus (exact ⟨(fun h => by cases h), fun h => absurd h.1 hn⟩)))
        | skip
    · have hn := hok.1 rfl
      clear hok
      (repeat' first | (refine go_ ?_; ((repeat' first | exact True.intro | refine Two.mk ?_ ?_); all_goals intros)) | fail "")
      all_goals first
        | (refine ⟨true, ?_, ?_⟩; rotate_left 1; (exact lessA_); (focus (exact ⟨fun _ => ⟨hn, by omega⟩, fun _ => rfl⟩)))
        | (refine ⟨false, ?_, ?_⟩; rotate_left 1; (exact lessA_); (focus (exact ⟨(fun h => by cases h), fun h => (by have := h.2; omega)⟩)))
        | skip
  clear ok hok w4 w5 w6 w11 w12 w13
  rintro ok hok
  have hll : c.Lanes.length ≤ 1000000000000000 := by omega
  have hql : c.Queue.length ≤ 1000000000000000 := by omega
  clear w7 w9
  (repeat' first | (refine go_ ?_; ((repeat' first | exact True.intro | refine Two.mk ?_ ?_); all_goals intros)) | fail "")
  refine r_for (fun x : Nat × Bool => ⟨[(1, .ptr 0 0 0 0), (2, .lit (.int .i64 0)), (3, .lit (.bool x.2)), (4, .lit (.int .i64 (lnPrev c.Lanes x.1))), (104, .ro (c.Lanes.map encLane)), (105, .lit (.int .i64 c.Lanes.length)), (106, .lit (.int .i64 x.1))], [(0, some (.box 34 (encConn c)))], 1, Tryz.f7.ntmps⟩)
    (fun x => x.1 ≤ c.Lanes.length ∧ (x.2 = true ↔ (cnA c ∧ cnNum c) ∧ AllTo (lnOk c) x.1)) (fun x => c.Lanes.length - x.1) (0, ok) ⟨Nat.zero_le _, by rw [hok]; exact ⟨fun h => ⟨h, allTo0⟩, fun h => h.1⟩⟩ (by (try dsimp only); rw [lnPrev_0]; (exact lessA_)) ?_
  clear ok hok
  rintro ⟨k, ok⟩ ⟨hk, hi⟩
  dsimp only at hk hi ⊢
  by_cases hkn : k < c.Lanes.length
  · have hs := allTo_succ (Q := lnOk c) (k := k)
    have hp := lnPrev_s c.Lanes k
    have hwl := w8 _ (getD_mem hkn)
    have h1 := gatherCheck_fn _ hwl.2.1
    have h2 := senderCheck_fn _ hwl.2.2.2
    have hwr := hwl.2.2.1
    cases ok
    · have hi : ¬ ((cnA c ∧ cnNum c) ∧ AllTo (lnOk c) k) := fun h => by have := hi.2 h; cases this
      generalize lnPrev c.Lanes k = pv
      (repeat' first | (refine go_ ?_; ((repeat' first | exact True.intro | refine Two.mk ?_ ?_); all_goals intros)) | fail "")
      all_goals first
        | (refine ⟨(k + 1, false), ?_, ?_, ?_⟩; rotate_left 2; (exact lessA_); (focus (dsimp only; omega)); (focus (exact ⟨hkn, (fun h => by cases h), fun h => absurd ⟨h.1, (hs.1 h.2).1⟩ hi⟩)))
        | skip
    · obtain ⟨hh, ha⟩ := hi.1 rfl
      unfold lnOk at hs
      generalize lnPrev c.Lanes k = pv at *
      (repeat' first | (refine s_call (h1) (h := ?_)) | (refine p_call (h1) (h := ?_)) | (refine s_call (h2) (h := ?_)) | (refine p_call (h2) (h := ?_)) | (refine go_ ?_; ((repeat' first | exact True.intro | refine Two.mk ?_ ?_); all_goals intros)) | fail "")
      all_goals first
        | (refine ⟨(k + 1, true), ?_, ?_, ?_⟩; rotate_left 2; (exact lessA_); (focus (dsimp only; omega)); (focus (exact ⟨hkn, fun _ => ⟨hh, hs.2 ⟨ha, by omega⟩⟩, fun _ => rfl⟩)))
        | (refine ⟨(k + 1, false), ?_, ?_, ?_⟩; rotate_left 2; (exact lessA_); (focus (dsimp only; omega)); (focus (exact ⟨hkn, (fun h => by cases h), fun h => (by have h2 := (hs.1 h.2).2; (try dsimp only at h2); omega)⟩)))
        | skip
  have hkl : k = c.Lanes.length := by omega
  subst hkl
  clear w8 hkn hk
  (repeat' first | (refine go_ ?_; ((repeat' first | exact True.intro | refine Two.mk ?_ ?_); all_goals intros)) | fail "")
  refine r_for (fun x : Nat × Bool => ⟨[(1, .ptr 0 0 0 0), (2, .lit (.int .i64 0)), (3, .lit (.bool x.2)), (146, .ro (c.Queue.map encFrame)), (147, .lit (.int .i64 c.Queue.length)), (148, .lit (.int .i64 x.1))], [(0, some (.box 34 (encConn c)))], 1, Tryz.f7.ntmps⟩)
    (fun x => x.1 ≤ c.Queue.length ∧ (x.2 = true ↔ ((cnA c ∧ cnNum c) ∧ AllTo (lnOk c) c.Lanes.length) ∧ frsOk c.Queue x.1)) (fun x => c.Queue.length - x.1) (0, ok) ⟨Nat.zero_le _, by rw [hi]; exact ⟨fun h => ⟨h, allTo0⟩, fun h => h.1⟩⟩ (by (try dsimp only); (exact lessA_)) ?_
  clear ok hi
  rintro ⟨k, ok⟩ ⟨hk, hi⟩
  dsimp only at hk hi ⊢
  by_cases hkn : k < c.Queue.length
  · have hs := allTo_succ (Q := fun i => frFlt (c.Queue.getD i default) = 0) (k := k)
    have h1 := frameCheck_fn _ (w10 _ (getD_mem hkn))
    unfold frsOk at hi
    cases ok
    · have hi : ¬ (((cnA c ∧ cnNum c) ∧ AllTo (lnOk c) c.Lanes.length) ∧ AllTo (fun i => frFlt (c.Queue.getD i default) = 0) k) := fun h => by have := hi.2 h; cases this
      (repeat' first | (refine go_ ?_; ((repeat' first | exact True.intro | refine Two.mk ?_ ?_); all_goals intros)) | fail "")
      all_goals first
        | (refine ⟨(k + 1, false), ?_, ?_, ?_⟩; rotate_left 2; (exact lessA_); (focus (dsimp only; omega)); (focus (exact ⟨hkn, (fun h => by cases h), fun h => absurd ⟨h.1, (hs.1 h.2).1⟩ hi⟩)))
        | skip
    · obtain ⟨hh, ha⟩ := hi.1 rfl
      (repeat' first | (refine s_call (h1) (h := ?_)) | (refine p_call (h1) (h := ?_)) | (refine go_ ?_; ((repeat' first | exact True.intro | refine Two.mk ?_ ?_); all_goals intros)) | fail "")
      all_goals first
        | (refine ⟨(k + 1, true), ?_, ?_, ?_⟩; rotate_left 2; (exact lessA_); (focus (dsimp only; omega)); (focus (exact ⟨hkn, fun _ => ⟨hh, hs.2 ⟨ha, by assumption⟩⟩, fun _ => rfl⟩)))
        | (refine ⟨(k + 1, false), ?_, ?_, ?_⟩; rotate_left 2; (exact lessA_); (focus (dsimp only; omega)); (focus (exact ⟨hkn, (fun h => by cases h), fun h => (by have h2 := (hs.1 h.2).2; (try dsimp only at h2); omega)⟩)))
        | skip
  have hkl : k = c.Queue.length := by omega
  subst hkl
  clear w10 hkn hk
  (repeat' first | (refine go_ ?_; ((repeat' first | exact True.intro | refine Two.mk ?_ ?_); all_goals intros)) | fail "")
  generalize hB : (((cnA c ∧ cnNum c) ∧ AllTo (lnOk c) c.Lanes.length) ∧ frsOk c.Queue c.Queue.length) = B at hi
  refine r_for (fun x : Nat × Bool => ⟨[(2, .lit (.int .i64 0)), (3, .lit (.bool x.2)), (161, .ro (c.Space.Sent.map encParcel)), (162, .lit (.int .i64 c.Space.Sent.length)), (163, .lit (.int .i64 x.1))], [], 0, Tryz.f7.ntmps⟩)
    (fun x => x.1 ≤ c.Space.Sent.length ∧ (x.2 = true ↔ B ∧ AllTo (fun i => frsOk (c.Space.Sent.getD i default).Frames (c.Space.Sent.getD i default).Frames.length) x.1)) (fun x => c.Space.Sent.length - x.1) (0, ok) ⟨Nat.zero_le _, by rw [hi]; exact ⟨fun h => ⟨h, allTo0⟩, fun h => h.1⟩⟩ (by (try dsimp only); (exact lessA_)) ?_
  clear ok hi
  rintro ⟨k, ok⟩ ⟨hk, hi⟩
  dsimp only at hk hi ⊢
  by_cases hkn : k < c.Space.Sent.length
  · have hs := allTo_succ (Q := fun i => frsOk (c.Space.Sent.getD i default).Frames (c.Space.Sent.getD i default).Frames.length) (k := k)
    have hwp := l3 _ (getD_mem hkn)
    clear l3
    obtain ⟨p1, p2, p3, p4, p5⟩ := hwp
    have hpl : (c.Space.Sent.getD k default).Frames.length ≤ 1000000000000000 := by omega
    (repeat' first | (refine go_ ?_; ((repeat' first | exact True.intro | refine Two.mk ?_ ?_); all_goals intros)) | fail "")
    refine r_for (fun x : Nat × Bool => ⟨[(2, .lit (.int .i64 0)), (3, .lit (.bool x.2)), (161, .ro (c.Space.Sent.map encParcel)), (162, .lit (.int .i64 c.Space.Sent.length)), (163, .lit (.int .i64 k)), (168, .ro ((c.Space.Sent.getD k default).Frames.map encFrame)), (169, .lit (.int .i64 (c.Space.Sent.getD k default).Frames.length)), (170, .lit (.int .i64 x.1))], [], 0, Tryz.f7.ntmps⟩)
      (fun x => x.1 ≤ (c.Space.Sent.getD k default).Frames.length ∧ (x.2 = true ↔ (B ∧ AllTo (fun i => frsOk (c.Space.Sent.getD i default).Frames (c.Space.Sent.getD i default).Frames.length) k) ∧ frsOk (c.Space.Sent.getD k default).Frames x.1)) (fun x => (c.Space.Sent.getD k default).Frames.length - x.1) (0, ok) ⟨Nat.zero_le _, by rw [hi]; exact ⟨fun h => ⟨h, allTo0⟩, fun h => h.1⟩⟩ (by (try dsimp only); (exact lessA_)) ?_
    clear ok hi
    rintro ⟨j, ok⟩ ⟨hj, hi⟩
    dsimp only at hj hi ⊢
    by_cases hjn : j < (c.Space.Sent.getD k default).Frames.length
    · have hs := allTo_succ (Q := fun i => frFlt ((c.Space.Sent.getD k default).Frames.getD i default) = 0) (k := j)
      have h1 := frameCheck_fn _ (p5 _ (getD_mem hjn))
      unfold frsOk at hi
      cases ok
      · have hi : ¬ ((B ∧ AllTo (fun i => frsOk (c.Space.Sent.getD i default).Frames (c.Space.Sent.getD i default).Frames.length) k) ∧ AllTo (fun i => frFlt ((c.Space.Sent.getD k default).Frames.getD i default) = 0) j) := fun h => by have := hi.2 h; cases this
        (repeat' first | (refine go_ ?_; ((repeat' first | exact True.intro | refine Two.mk ?_ ?_); all_goals intros)) | fail "")
        all_goals first
          | (refine ⟨(j + 1, false), ?_, ?_, ?_⟩; rotate_left 2; (exact lessA_); (focus (dsimp only; omega)); (focus (exact ⟨hjn, (fun h => by cases h), fun h => absurd ⟨h.1, (hs.1 h.2).1⟩ hi⟩)))
          | skip
      · obtain ⟨hh, ha⟩ := hi.1 rfl
        (repeat' first | (refine s_call (h1) (h := ?_)) | (refine p_call (h1) (h := ?_)) | (refine go_ ?_; ((repeat' first | exact True.intro | refine Two.mk ?_ ?_); all_goals intros)) | fail "")
        all_goals first
          | (refine ⟨(j + 1, true), ?_, ?_, ?_⟩; rotate_left 2; (exact lessA_); (focus (dsimp only; omega)); (focus (exact ⟨hjn, fun _ => ⟨hh, hs.2 ⟨ha, by assumption⟩⟩, fun _ => rfl⟩)))
          | (refine ⟨(j + 1, false), ?_, ?_, ?_⟩; rotate_left 2; (exact lessA_); (focus (dsimp only; omega)); (focus (exact ⟨hjn, (fun h => by cases h), fun h => (by have h2 := (hs.1 h.2).2; (try dsimp only at h2); omega)⟩)))
          | skip
    have hjl : j = (c.Space.Sent.getD k default).Frames.length := by omega
    subst hjl
    (repeat' first | (refine go_ ?_; ((repeat' first | exact True.intro | refine Two.mk ?_ ?_); all_goals intros)) | fail "")
    all_goals first
      | (refine ⟨(k + 1, ok), ?_, ?_, ?_⟩; rotate_left 2; (exact lessA_); (focus (dsimp only; omega)); (focus (exact ⟨hkn, by rw [hi, hs]; exact ⟨fun h => ⟨h.1.1, h.1.2, h.2⟩, fun h => ⟨⟨h.1, h.2.1⟩, h.2.2⟩⟩⟩)))
      | skip
  have hkl : k = c.Space.Sent.length := by omega
  subst hkl
  subst hB
  cases ok
  · rw [cnFlt_f (fun h => by have := hi.2 h; cases this)]
    (repeat' first | (refine go_ ?_; ((repeat' first | exact True.intro | refine Two.mk ?_ ?_); all_goals intros)) | fail "")
    all_goals exact ends_ (hr := rfl)
  · rw [cnFlt_t (hi.1 rfl)]
    (repeat' first | (refine go_ ?_; ((repeat' first | exact True.intro | refine Two.mk ?_ ?_); all_goals intros)) | fail "")
    all_goals exact ends_ (hr := rfl)
end Go.Proofs.YtfdomanbdfekhaaGreat

/-
  The reference's ConnFault: what it answers, within the bound of the second form.
-/
set_option linter.unusedVariables false
set_option linter.unusedSimpArgs false
set_option linter.unusedVariables false
namespace Go.Proofs.YtfdomanbdfekhaaGreat
set_option maxRecDepth 100000
attribute [local irreducible] Run RunL QStep GStep Fn Less PL FnM

theorem allTo_memA {α : Type} [Inhabited α] {l : List α} {Q : α → Prop} : AllTo (fun i => Q (l.getD i default)) l.length ↔ ∀ x ∈ l, Q x := by
  constructor
  · intro h x hx
    obtain ⟨i, hi, rfl⟩ := List.getElem_of_mem hx
    have := h i hi
    dsimp only at this
    rwa [List.getD_eq_getElem?_getD, List.getElem?_eq_getElem hi] at this
  · intro h i hi
    exact h _ (getD_mem hi)
/-- all frames of parcels -/
def pkFr (l : List DParcel) : List DFrame := (l.map (·.Frames)).flatten
theorem pkFr_succ {l : List DParcel} {k : Nat} (h : k < l.length) : pkFr (l.take (k + 1)) = pkFr (l.take k) ++ (l.getD k default).Frames := by
  unfold pkFr
  rw [List.take_add_one, List.getElem?_eq_getElem h, List.getD_eq_getElem?_getD, List.getElem?_eq_getElem h]
  simp only [List.map_append, List.flatten_append, Option.toList, List.map_cons, List.map_nil, List.flatten_cons, List.flatten_nil, List.append_nil, Option.getD]
theorem mem_pkFr {l : List DParcel} {f : DFrame} : f ∈ pkFr l ↔ ∃ p ∈ l, f ∈ p.Frames := by
  unfold pkFr
  simp only [List.mem_flatten, List.mem_map]
  constructor
  · rintro ⟨_, ⟨p, hp, rfl⟩, hf⟩; exact ⟨p, hp, hf⟩
  · rintro ⟨p, hp, hf⟩; exact ⟨_, ⟨p, hp, rfl⟩, hf⟩
theorem cnOk_iff (c : DConn) : cnOk c ↔ ((cnA c ∧ cnNum c) ∧ AllTo (lnOk c) c.Lanes.length) ∧ AllTo (fun i => frFlt ((c.Queue ++ pkFr c.Space.Sent).getD i default) = 0) (c.Queue ++ pkFr c.Space.Sent).length := by
  have e1 := allTo_memA (l := c.Queue ++ pkFr c.Space.Sent) (Q := fun x => frFlt x = 0)
  have e2 := allTo_memA (l := c.Queue) (Q := fun x => frFlt x = 0)
  have e3 := allTo_memA (l := c.Space.Sent) (Q := fun p => frsOk p.Frames p.Frames.length)
  have e4 := fun l : List DFrame => allTo_memA (l := l) (Q := fun x => frFlt x = 0)
  unfold cnOk
  constructor
  · rintro ⟨⟨h1, h2⟩, h3⟩
    refine ⟨h1, e1.2 fun x hx => ?_⟩
    rcases List.mem_append.1 hx with hx | hx
    · exact e2.1 h2 x hx
    · obtain ⟨p, hp, hf⟩ := mem_pkFr.1 hx
      exact (e4 _).1 (e3.1 h3 p hp) x hf
  · rintro ⟨h1, h2⟩
    have h2 := e1.1 h2
    exact ⟨⟨h1, e2.2 fun x hx => h2 x (List.mem_append.2 (.inl hx))⟩, e3.2 fun p hp => (e4 _).2 fun x hx => h2 x (List.mem_append.2 (.inr (mem_pkFr.2 ⟨p, hp, hx⟩)))⟩

set_option maxHeartbeats 4000000 in
theorem connFault_fn (c : DConn) (hu : U.wfConn c) : Fn Tryz.prog 12 [.agg (encConn c)] (.lit (.int .i64 (cnFlt c))) := by
  have hw := U.wf_leConn c hu
  obtain ⟨w0, w1, w2, w3, w4, w5, w6, w7, w8, w9, w10, w11, w12, w13⟩ := hw
  have l2 : c.Space.Sent.length ≤ 1048576 := by have := hu.1.2.1; omega
  have l3 : ∀ y, y ∈ c.Space.Sent → U.wfParcel y := hu.1.2.2.1
  have l4 : ∀ y, y ∈ c.Space.Sent → wfParcel y := w0.2.2.1
  have l5 : ∀ y, y ∈ c.Lanes → U.wfLane y := hu.2.2.2.2.2.2.2.2.1
  have hql : c.Queue.length ≤ 1048576 := by have := hu.2.2.2.2.2.2.2.2.2.1; omega
  have h1 := spaceFault_fn c.Space w0
  have h2 := paceFaultRef_fn c.Pace w1
  have h3 := flwFault_fn c.Flow
  have h4 := flwFault_fn c.Credit
  clear w0 w1 w2 w3 hu
  unfold I64 at w4 w5 w6 w11 w12 w13
  have hiff := cnOk_iff c
  refine fn_of_run (by kernel_rfl) Tryz.func12 rfl (by kernel_rfl) ?_
  refine r_seq ?_
  refine r_region ?_
  (repeat' first | (refine goS_ ?_; ((repeat' first | exact True.intro | refine Two.mk ?_ ?_); all_goals intros)) | fail "")
  refine thenQ_n ?_
  refine r_cut (fun ok : Bool => ⟨[(1, .ptr 0 0 0 0), (2, .lit (.int .i64 0)), (3, .lit (.bool ok))], [(0, some (.box 34 (encConn c)))], 1, Tryz.f12.ntmps⟩) (fun ok => ok = true ↔ cnA c ∧ cnNum c) ?_ ?_
  · unfold cnA cnNum
    (repeat' first | (refine s_call (h1) (h := ?_)) | (refine p_call (h1) (h := ?_)) | (refine s_call (h2) (h := ?_)) | (refine p_call (h2) (h := ?_)) | (refine s_call (h3) (h := ?_)) | (refine p_call (h3) (h := ?_)) | (refine s_call (h4) (h := ?_)) | (refine p_call (h4) (h := ?_)) | (refine s_dec (upTo_fn _ _) (ht := ?_) (hff := ?_) <;> intro _ <;> try (exfalso; omega)) | (refine p_dec (upTo_fn _ _) (ht := ?_) (hff := ?_) <;> intro _ <;> try (exfalso; omega)) | (refine go_ ?_; ((repeat' first | exact True.intro | refine Two.mk ?_ ?_); all_goals intros)) | fail "")
    all_goals first
      | (refine ⟨true, ?_, ?_⟩; rotate_left 1; (exact lessA_); (focus (exact ⟨fun _ => (by omega), fun _ => rfl⟩)))
      | (refine ⟨false, ?_, ?_⟩; rotate_left 1; (exact lessA_); (focus (exact ⟨(fun h => by cases h), fun h => (by omega)⟩)))
      | skip
  rintro ok hok
  clear h1 h2 h3 h4 w4 w5 w11 w12 w13
  have hll : c.Lanes.length ≤ 1000000000000000 := by omega
  clear w7 w9
  (repeat' first | (refine go_ ?_; ((repeat' first | exact True.intro | refine Two.mk ?_ ?_); all_goals intros)) | fail "")
  refine r_for (fun x : Nat × Bool => ⟨[(1, .ptr 0 0 0 0), (2, .lit (.int .i64 0)), (3, .lit (.bool x.2)), (76, .ro (c.Lanes.map encLane)), (77, .lit (.int .i64 c.Lanes.length)), (78, .lit (.int .i64 x.1))], [(0, some (.box 34 (encConn c)))], 1, Tryz.f12.ntmps⟩)
    (fun x => x.1 ≤ c.Lanes.length ∧ (x.2 = true ↔ (cnA c ∧ cnNum c) ∧ AllTo (lnOk c) x.1)) (fun x => c.Lanes.length - x.1) (0, ok) ⟨Nat.zero_le _, by rw [hok]; exact ⟨fun h => ⟨h, allTo0⟩, fun h => h.1⟩⟩ (by (try dsimp only); (exact lessA_)) ?_
  clear ok hok
  rintro ⟨k, ok⟩ ⟨hk, hi⟩
  dsimp only at hk hi ⊢
  by_cases hkn : k < c.Lanes.length
  · have hs := allTo_succ (Q := lnOk c) (k := k)
    have hwl := w8 _ (getD_mem hkn)
    have hul := l5 _ (getD_mem hkn)
    have h1 := gatherFault_fn _ hwl.2.1
    have h2 := senderFault_fn _ hul.2.2.2
    have hwr := hwl.2.2.1
    have hwi := hwl.1
    clear l2 l3 l4 l5 hiff hql w8 w10
    cases ok
    · have hi : ¬ ((cnA c ∧ cnNum c) ∧ AllTo (lnOk c) k) := fun h => by have := hi.2 h; cases this
      (repeat' first | (refine go_ ?_; ((repeat' first | exact True.intro | refine Two.mk ?_ ?_); all_goals intros)) | fail "")
      all_goals first
        | (refine ⟨(k + 1, false), ?_, ?_, ?_⟩; rotate_left 2; (exact lessA_); (focus (dsimp only; omega)); (focus (exact ⟨hkn, (fun h => by cases h), fun h => absurd ⟨h.1, (hs.1 h.2).1⟩ hi⟩)))
        | skip
    · obtain ⟨hh, ha⟩ := hi.1 rfl
      have hop : 0 ≤ c.Opened := hh.2.2.2.2.2.1
      have hwr2 : IntKind.i64.wrap (c.Opened - 1) = c.Opened - 1 := by rw [IntKind.wrap_i64]; omega
      rcases Nat.eq_zero_or_pos k with h0 | h0
      · subst h0
        unfold lnOk at hs
        rw [lnPrev_0] at hs
        (repeat' first | (refine s_call (h1) (h := ?_)) | (refine p_call (h1) (h := ?_)) | (refine s_call (h2) (h := ?_)) | (refine p_call (h2) (h := ?_)) | (refine s_dec (upTo_fn _ _) (ht := ?_) (hff := ?_) <;> intro _ <;> try (exfalso; omega)) | (refine p_dec (upTo_fn _ _) (ht := ?_) (hff := ?_) <;> intro _ <;> try (exfalso; omega)) | (refine go_ ?_; ((repeat' first | exact True.intro | refine Two.mk ?_ ?_); all_goals intros)) | fail "")
        all_goals first
          | (refine ⟨(0 + 1, true), ?_, ?_, ?_⟩; rotate_left 2; (exact lessA_); (focus (dsimp only; omega)); (focus (exact ⟨hkn, fun _ => ⟨hh, hs.2 ⟨ha, by omega⟩⟩, fun _ => rfl⟩)))
          | (refine ⟨(0 + 1, false), ?_, ?_, ?_⟩; rotate_left 2; (exact lessA_); (focus (dsimp only; omega)); (focus (exact ⟨hkn, (fun h => by cases h), fun h => (by have h2 := (hs.1 h.2).2; (try dsimp only at h2); omega)⟩)))
          | skip
      · obtain ⟨j, rfl⟩ : ∃ j, k = j + 1 := ⟨k - 1, by omega⟩
        have hpv := ha j (by omega)
        have hp2 : 0 ≤ (c.Lanes.getD j default).Id := by
          clear hs hi
          have : ∀ i, i ≤ j → 0 ≤ (c.Lanes.getD i default).Id := by
            intro i
            induction i with
            | zero => intro _; have := (ha 0 (by omega)).1; rw [lnPrev_0] at this; omega
            | succ i ih => intro hi; have := (ha (i + 1) (by omega)).1; rw [lnPrev_s] at this; have := ih (by omega); omega
          exact this j (Nat.le_refl _)
        clear hpv
        unfold lnOk at hs
        rw [lnPrev_s] at hs
        have ej : ((j + 1 : Nat) : Int) - 1 = (j : Int) := by omega
        (repeat' first | (refine s_call (h1) (h := ?_)) | (refine p_call (h1) (h := ?_)) | (refine s_call (h2) (h := ?_)) | (refine p_call (h2) (h := ?_)) | (refine s_dec (upTo_fn _ _) (ht := ?_) (hff := ?_) <;> intro _ <;> try (exfalso; omega)) | (refine p_dec (upTo_fn _ _) (ht := ?_) (hff := ?_) <;> intro _ <;> try (exfalso; omega)) | (refine go_ ?_; ((repeat' first | exact True.intro | refine Two.mk ?_ ?_); all_goals intros)) | fail "")
        all_goals (try simp only [Nat.add_sub_cancel] at *)
        all_goals first
          | (refine ⟨(j + 1 + 1, true), ?_, ?_, ?_⟩; rotate_left 2; (exact lessA_); (focus (dsimp only; omega)); (focus (exact ⟨hkn, fun _ => ⟨hh, hs.2 ⟨ha, by omega⟩⟩, fun _ => rfl⟩)))
          | (refine ⟨(j + 1 + 1, false), ?_, ?_, ?_⟩; rotate_left 2; (exact lessA_); (focus (dsimp only; omega)); (focus (exact ⟨hkn, (fun h => by cases h), fun h => (by have h2 := (hs.1 h.2).2; (try dsimp only at h2); omega)⟩)))
          | skip
  have hkl : k = c.Lanes.length := by omega
  subst hkl
  clear w8 l5 hkn hk
  generalize ((cnA c ∧ cnNum c) ∧ AllTo (lnOk c) c.Lanes.length) = B at *
  (repeat' first | (refine s_app (r := c.Queue.map encFrame) ?_ ?_ ?_ ?_ (h := ?_); (focus (first | with_reducible rfl | with_reducible exact List.nil_append _ | with_reducible exact (List.map_append ..).symm | (rw [take_snoc (by assumption), List.map_append]; rfl) | (rw [List.map_append]; rfl) | (simp; done))); (focus (first | exact len_none | exact len_one rfl | exact len_two rfl rfl | exact len_enc (fun _ => rfl))); (focus ((conv => lhs; rhs; whnf); simp only [List.length_map, List.length_append, List.length_cons, List.length_nil, List.length_take]; omega)); (focus (simp only [List.length_map, List.length_append, List.length_cons, List.length_nil, List.length_take]; omega))) | (refine s_app0R (r := c.Queue.map encFrame) ?_ ?_ ?_ ?_ (h := ?_); (focus (first | with_reducible rfl | with_reducible exact List.nil_append _ | with_reducible exact (List.map_append ..).symm | (rw [take_snoc (by assumption), List.map_append]; rfl) | (rw [List.map_append]; rfl) | (simp; done))); (focus (first | exact len_none | exact len_one rfl | exact len_two rfl rfl | exact len_enc (fun _ => rfl))); (focus ((conv => lhs; rhs; whnf); simp only [List.length_map, List.length_append, List.length_cons, List.length_nil, List.length_take]; omega)); (focus (simp only [List.length_map, List.length_append, List.length_cons, List.length_nil, List.length_take]; omega))) | (refine p_app (r := c.Queue.map encFrame) ?_ ?_ ?_ ?_ (h := ?_); (focus (first | with_reducible rfl | with_reducible exact List.nil_append _ | with_reducible exact (List.map_append ..).symm | (rw [take_snoc (by assumption), List.map_append]; rfl) | (rw [List.map_append]; rfl) | (simp; done))); (focus (first | exact len_none | exact len_one rfl | exact len_two rfl rfl | exact len_enc (fun _ => rfl))); (focus ((conv => lhs; rhs; whnf); simp only [List.length_map, List.length_append, List.length_cons, List.length_nil, List.length_take]; omega)); (focus (simp only [List.length_map, List.length_append, List.length_cons, List.length_nil, List.length_take]; omega))) | (refine p_app0R (r := c.Queue.map encFrame) ?_ ?_ ?_ ?_ (h := ?_); (focus (first | with_reducible rfl | with_reducible exact List.nil_append _ | with_reducible exact (List.map_append ..).symm | (rw [take_snoc (by assumption), List.map_append]; rfl) | (rw [List.map_append]; rfl) | (simp; done))); (focus (first | exact len_none | exact len_one rfl | exact len_two rfl rfl | exact len_enc (fun _ => rfl))); (focus ((conv => lhs; rhs; whnf); simp only [List.length_map, List.length_append, List.length_cons, List.length_nil, List.length_take]; omega)); (focus (simp only [List.length_map, List.length_append, List.length_cons, List.length_nil, List.length_take]; omega))) | (refine go_ ?_; ((repeat' first | exact True.intro | refine Two.mk ?_ ?_); all_goals intros)) | fail "")
  refine r_for (fun k : Nat => ⟨[(2, .lit (.int .i64 0)), (3, .lit (.bool ok)), (6, .own 0), (133, .ro (c.Space.Sent.map encParcel)), (134, .lit (.int .i64 c.Space.Sent.length)), (135, .lit (.int .i64 k))], [(0, some (.row 71 7 ((c.Queue ++ pkFr (c.Space.Sent.take k)).map encFrame)))], 1, Tryz.f12.ntmps⟩)
    (fun k => k ≤ c.Space.Sent.length ∧ (pkFr (c.Space.Sent.take k)).length ≤ k * 1048576) (fun k => c.Space.Sent.length - k) 0 ⟨Nat.zero_le _, Nat.zero_le _⟩ (by (try dsimp only); rw [show c.Queue ++ pkFr (c.Space.Sent.take 0) = c.Queue from List.append_nil _]; (exact lessA_)) ?_
  rintro k ⟨hk, hkl⟩
  by_cases hkn : k < c.Space.Sent.length
  · have hup := (l3 _ (getD_mem hkn)).2.2.2.1
    have hps := pkFr_succ hkn
    have hle : k * 1048576 ≤ 1048576 * 1048576 := Nat.mul_le_mul_right _ (by omega)
    have hla : (c.Queue ++ pkFr (c.Space.Sent.take k)).length = c.Queue.length + (pkFr (c.Space.Sent.take k)).length := List.length_append
    have hlb : (pkFr (c.Space.Sent.take (k + 1))).length = (pkFr (c.Space.Sent.take k)).length + (c.Space.Sent.getD k default).Frames.length := by rw [hps, List.length_append]
    (repeat' first | (refine s_app (r := (c.Queue ++ pkFr (c.Space.Sent.take (k + 1))).map encFrame) ?_ ?_ ?_ ?_ (h := ?_); (focus (first | ((rw [hps, ← List.append_assoc]; exact List.map_append.symm)) | with_reducible rfl | with_reducible exact List.nil_append _ | with_reducible exact (List.map_append ..).symm | (rw [take_snoc (by assumption), List.map_append]; rfl) | (rw [List.map_append]; rfl) | (simp; done))); (focus (first | exact len_none | exact len_one rfl | exact len_two rfl rfl | exact len_enc (fun _ => rfl))); (focus ((conv => lhs; rhs; whnf); simp only [List.length_map, List.length_append, List.length_cons, List.length_nil, List.length_take]; omega)); (focus (simp only [List.length_map, List.length_append, List.length_cons, List.length_nil, List.length_take]; omega))) | (refine s_app0R (r := (c.Queue ++ pkFr (c.Space.Sent.take (k + 1))).map encFrame) ?_ ?_ ?_ ?_ (h := ?_); (focus (first | ((rw [hps, ← List.append_assoc]; exact List.map_append.symm)) | with_reducible rfl | with_reducible exact List.nil_append _ | with_reducible exact (List.map_append ..).symm | (rw [take_snoc (by assumption), List.map_append]; rfl) | (rw [List.map_append]; rfl) | (simp; done))); (focus (first | exact len_none | exact len_one rfl | exact len_two rfl rfl | exact len_enc (fun _ => rfl))); (focus ((conv => lhs; rhs; whnf); simp only [List.length_map, List.length_append, List.length_cons, List.length_nil, List.length_take]; omega)); (focus (simp only [List.length_map, List.length_append, List.length_cons, List.length_nil, List.length_take]; omega))) | (refine p_app (r := (c.Queue ++ pkFr (c.Space.Sent.take (k + 1))).map encFrame) ?_ ?_ ?_ ?_ (h := ?_); (focus (first | ((rw [hps, ← List.append_assoc]; exact List.map_append.symm)) | with_reducible rfl | with_reducible exact List.nil_append _ | with_reducible exact (List.map_append ..).symm | (rw [take_snoc (by assumption), List.map_append]; rfl) | (rw [List.map_append]; rfl) | (simp; done))); (focus (first | exact len_none | exact len_one rfl | exact len_two rfl rfl | exact len_enc (fun _ => rfl))); (focus ((conv => lhs; rhs; whnf); simp only [List.length_map, List.length_append, List.length_cons, List.length_nil, List.length_take]; omega)); (focus (simp only [List.length_map, List.length_append, List.length_cons, List.length_nil, List.length_take]; omega))) | (refine p_app0R (r := (c.Queue ++ pkFr (c.Space.Sent.take (k + 1))).map encFrame) ?_ ?_ ?_ ?_ (h := ?_); (focus (first | ((rw [hps, ← List.append_assoc]; exact List.map_append.symm)) | with_reducible rfl | with_reducible exact List.nil_append _ | with_reducible exact (List.map_append ..).symm | (rw [take_snoc (by assumption), List.map_append]; rfl) | (rw [List.map_append]; rfl) | (simp; done))); (focus (first | exact len_none | exact len_one rfl | exact len_two rfl rfl | exact len_enc (fun _ => rfl))); (focus ((conv => lhs; rhs; whnf); simp only [List.length_map, List.length_append, List.length_cons, List.length_nil, List.length_take]; omega)); (focus (simp only [List.length_map, List.length_append, List.length_cons, List.length_nil, List.length_take]; omega))) | (refine go_ ?_; ((repeat' first | exact True.intro | refine Two.mk ?_ ?_); all_goals intros)) | fail "")
    all_goals first
      | (refine ⟨k + 1, ?_, ?_, ?_⟩; rotate_left 2; (exact lessA_); (focus (omega)); (focus (exact ⟨hkn, by omega⟩)))
      | skip
  have hkl2 : k = c.Space.Sent.length := by omega
  subst hkl2
  rw [List.take_length] at *
  have hle : c.Space.Sent.length * 1048576 ≤ 1048576 * 1048576 := Nat.mul_le_mul_right _ (by omega)
  have hLl : (c.Queue ++ pkFr c.Space.Sent).length ≤ 1000000000000000 := by rw [List.length_append]; omega
  have hLw : ∀ f ∈ c.Queue ++ pkFr c.Space.Sent, wfFrame f := fun f hf => by
    rcases List.mem_append.1 hf with hf | hf
    · exact w10 f hf
    · obtain ⟨p, hp, hf⟩ := mem_pkFr.1 hf
      exact (l4 p hp).2.2.2.2 f hf
  clear hle hkl hk hkn l3 l4 w10 hql l2
  generalize c.Queue ++ pkFr c.Space.Sent = L at *
  (repeat' first | (refine go_ ?_; ((repeat' first | exact True.intro | refine Two.mk ?_ ?_); all_goals intros)) | fail "")
  refine r_for (fun x : Nat × Bool => ⟨[(2, .lit (.int .i64 0)), (3, .lit (.bool x.2)), (144, .ro (L.map encFrame)), (145, .lit (.int .i64 L.length)), (146, .lit (.int .i64 x.1))], [], 0, Tryz.f12.ntmps⟩)
    (fun x => x.1 ≤ L.length ∧ (x.2 = true ↔ B ∧ AllTo (fun i => frFlt (L.getD i default) = 0) x.1)) (fun x => L.length - x.1) (0, ok) ⟨Nat.zero_le _, by rw [hi]; exact ⟨fun h => ⟨h, allTo0⟩, fun h => h.1⟩⟩ (by (try dsimp only); (exact lessA_)) ?_
  clear ok hi
  rintro ⟨k, ok⟩ ⟨hk, hi⟩
  dsimp only at hk hi ⊢
  by_cases hkn : k < L.length
  · have hs := allTo_succ (Q := fun i => frFlt (L.getD i default) = 0) (k := k)
    have h1 := frameFault_fn _ (hLw _ (getD_mem hkn))
    cases ok
    · have hi : ¬ (B ∧ AllTo (fun i => frFlt (L.getD i default) = 0) k) := fun h => by have := hi.2 h; cases this
      (repeat' first | (refine go_ ?_; ((repeat' first | exact True.intro | refine Two.mk ?_ ?_); all_goals intros)) | fail "")
      all_goals first
        | (refine ⟨(k + 1, false), ?_, ?_, ?_⟩; rotate_left 2; (exact lessA_); (focus (dsimp only; omega)); (focus (exact ⟨hkn, (fun h => by cases h), fun h => absurd ⟨h.1, (hs.1 h.2).1⟩ hi⟩)))
        | skip
    · obtain ⟨hh, ha⟩ := hi.1 rfl
      (repeat' first | (refine s_call (h1) (h := ?_)) | (refine p_call (h1) (h := ?_)) | (refine go_ ?_; ((repeat' first | exact True.intro | refine Two.mk ?_ ?_); all_goals intros)) | fail "")
      all_goals first
        | (refine ⟨(k + 1, true), ?_, ?_, ?_⟩; rotate_left 2; (exact lessA_); (focus (dsimp only; omega)); (focus (exact ⟨hkn, fun _ => ⟨hh, hs.2 ⟨ha, by assumption⟩⟩, fun _ => rfl⟩)))
        | (refine ⟨(k + 1, false), ?_, ?_, ?_⟩; rotate_left 2; (exact lessA_); (focus (dsimp only; omega)); (focus (exact ⟨hkn, (fun h => by cases h), fun h => (by have h2 := (hs.1 h.2).2; (try dsimp only at h2); omega)⟩)))
        | skip
  have hkl : k = L.length := by omega
  subst hkl
  cases ok
  · rw [cnFlt_f (fun h => by have := hi.2 (hiff.1 h); cases this)]
    (repeat' first | (refine go_ ?_; ((repeat' first | exact True.intro | refine Two.mk ?_ ?_); all_goals intros)) | fail "")
    all_goals exact ends_ (hr := rfl)
  · rw [cnFlt_t (hiff.2 (hi.1 rfl))]
    (repeat' first | (refine go_ ?_; ((repeat' first | exact True.intro | refine Two.mk ?_ ?_); all_goals intros)) | fail "")
    all_goals exact ends_ (hr := rfl)
end Go.Proofs.YtfdomanbdfekhaaGreat
